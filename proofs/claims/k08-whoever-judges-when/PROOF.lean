import PyProof.Rows.All
import Wide.All
import OpenK.AllK
import Wide.FinOn
import HandS.ForMost
import HandS.Evl
import HandS.Walk
import HandS.IsInst
import HandS.Lambda
import KE.GoesMore
import KE.GoesEnum
import KE.KDictPairs
import KE.KDictKeyed
import KE.KDictSum
import HandS.Conv
import HandS.SortInts
import HandS.DictTup
import HandS.TupAny
import PyProof.SliceSyntax
import PyProof.DictStraight
import KE.SortKeyHeap
import KE.SortData
import HandS.SortKw
import HandS.Style
import KE.KStateDown
import HandS.Base
import HandS.Call
import HandS.Ends
import HandS.More
import HandS.Words
import HandS.Defaults
import HandS.Head0
import HandS.Head1
import HandS.Head2
import HandS.HeadEnd
import HandS.HeadHook1
import HandS.HeadHook2
import HandS.HeadHook3
import HandS.HeadHook4
import HandS.EndTab
import HandS.HeadWalk
import HandS.Iter
import HandS.SortRule
import KE.KTupSum
import HandS.Deep
import PySem.Challenge.RW_judgehall_k08_whole_whoever_judges_when
set_option Elab.async false
set_option linter.all false
set_option maxRecDepth 100000
set_option maxHeartbeats 4000000
/-! The base: data as trees (D), how a heap bears them (Rp), what an expression comes to (EvD ..). -/
namespace J
open PySem L2 Evl

/-! ### heaps that grow. Tables of code objects (a lambda's maker has one) may be written; what they tell stays good. -/
/-- the name of the code objects that a table tells -/
class Tbs where
  q : Addr → Str
  /-- the tables of placed, of _law_placed -/
  p1 : Addr
  p2 : Addr
def isTbl : HO → Bool
  | .tbl _ => true
  | _ => false
def isCode : HO → Bool
  | .tbl _ => true
  | .ext _ => true
  | _ => false
theorem isTbl_code {o : HO} (h : isCode o = false) : isTbl o = false := by cases o <;> first | rfl | cases h
section
variable [Tbs] {A B C : Hp}
def Good (H : Hp) (q : Str) (cv : Value) : Prop := ∃ c, cv = .ref c ∧ H c = some (LamX.CodeO c q)
/-- a table that grew: what it tells was told, or is good -/
def Grew (B : Hp) (q : Str) (ps ps' : Array Value) : Prop := TriplesOk ps.toList → TriplesOk ps'.toList ∧ ∀ (pos : Pos) (cv : Value), codeAmong pos ps'.toList = some cv → (∃ pos', codeAmong pos' ps.toList = some cv) ∨ Good B q cv
structure Ex (A B : Hp) : Prop where
  k : ∀ b o, A b = some o → isTbl o = false → B b = some o
  t : ∀ b ps, A b = some (.tbl ps) → ∃ ps', B b = some (.tbl ps') ∧ Grew B (Tbs.q b) ps ps'
def Kx (A B : Hp) : Prop := ∀ b o, A b = some o → isTbl o = false → B b = some o
class NoT (o : HO) : Prop where
  h : isTbl o = false
instance {xs : List V} : NoT (.lst xs) := ⟨rfl⟩
instance {xs : List V} : NoT (.tup xs) := ⟨rfl⟩
instance {xs : List (Key × V)} : NoT (.dK xs) := ⟨rfl⟩
instance {xs : List (List Key × V)} : NoT (.dT xs) := ⟨rfl⟩
instance {C d : Addr} {fs : List (Str × V)} : NoT (.ins C d fs) := ⟨rfl⟩
instance {C : Addr} : NoT (.own C) := ⟨rfl⟩
instance {fs : List (Str × V)} : NoT (.xd fs) := ⟨rfl⟩
instance {o : Obj} {u : HO} : NoT (.frz o u) := ⟨rfl⟩
instance {φ : Heap → Prop} : NoT (.ext φ) := ⟨rfl⟩
instance : CoeFun (Ex A B) (fun _ => (b : Addr) → (o : HO) → A b = some o → [NoT o] → B b = some o) := ⟨fun e b o h [t : NoT o] => e.k b o h t.h⟩
theorem Grew.refl {q : Str} {ps : Array Value} : Grew A q ps ps := fun h => ⟨h, fun pos cv e => .inl ⟨pos, e⟩⟩
theorem Good.of {q : Str} {cv : Value} (k : ∀ b o, A b = some o → isTbl o = false → B b = some o) : Good A q cv → Good B q cv := fun ⟨c, e, h⟩ => ⟨c, e, k _ _ h rfl⟩
theorem Grew.trans {q : Str} {p1 p2 p3 : Array Value} (k : ∀ b o, B b = some o → isTbl o = false → C b = some o) (a : Grew B q p1 p2) (b : Grew C q p2 p3) : Grew C q p1 p3 := fun h => by
  obtain ⟨h2, f2⟩ := a h
  obtain ⟨h3, f3⟩ := b h2
  refine ⟨h3, fun pos cv e => ?_⟩
  rcases f3 pos cv e with ⟨pos', e'⟩ | g
  · rcases f2 pos' cv e' with z | g
    · exact .inl z
    · exact .inr (g.of k)
  · exact .inr g
theorem Grew.to {q : Str} {p1 p2 : Array Value} (k : ∀ b o, B b = some o → isTbl o = false → C b = some o) (a : Grew B q p1 p2) : Grew C q p1 p2 := Grew.trans k a .refl
theorem Ex.refl (H : Hp) : Ex H H := ⟨fun _ _ h _ => h, fun _ ps h => ⟨ps, h, .refl⟩⟩
theorem Ex.trans (a : Ex A B) (b : Ex B C) : Ex A C := ⟨fun x o h t => b.k x o (a.k x o h t) t, fun x ps h => by
  obtain ⟨p2, h2, g2⟩ := a.t x ps h
  obtain ⟨p3, h3, g3⟩ := b.t x p2 h2
  exact ⟨p3, h3, g2.trans b.k g3⟩⟩
theorem Ex.of (k : ∀ b o, A b = some o → B b = some o) : Ex A B := ⟨fun b o h _ => k b o h, fun b ps h => ⟨ps, k b _ h, .refl⟩⟩
theorem Ex.new {p : Addr} {o : HO} (h : A p = none) : Ex A (upd A p o) := .of fun b u hb => by
  rw [upd_ne (ne_of_none hb h)]
  exact hb
theorem fresh_back {p : Addr} (e : Ex A B) (h : B p = none) : A p = none := by
  cases z : A p with
  | none => rfl
  | some o =>
    cases o with
    | tbl ps =>
      obtain ⟨ps', h', _⟩ := e.t p ps z
      rw [h] at h'
      cases h'
    | _ =>
      have h' := e.k p _ z rfl
      rw [h] at h'
      cases h'
/-- what is no code object is written -/
theorem Ex.mut {p : Addr} {o : HO} (e : Ex A B) (h : A p = none) (c : ∀ u, B p = some u → isCode u = false) : Ex A (upd B p o) := by
  refine ⟨fun b u hb t => ?_, fun b ps hb => ?_⟩
  · rw [upd_ne (ne_of_none hb h)]
    exact e.k b u hb t
  · obtain ⟨ps', h', g⟩ := e.t b ps hb
    refine ⟨ps', by rw [upd_ne (ne_of_none hb h)]; exact h', fun ht => ?_⟩
    obtain ⟨h2, h3⟩ := g ht
    refine ⟨h2, fun pos cv hc => (h3 pos cv hc).elim .inl fun ⟨c', e1, e2⟩ => .inr ⟨c', e1, ?_⟩⟩
    have n : c' ≠ p := fun z => by
      subst z
      have := c _ e2
      cases this
    rw [upd_ne n]
    exact e2
/-- a table that tells nothing yet tells but good things -/
theorem Ex.tab (e : Ex A B) {P : Addr} (h : A P = some (.tbl #[])) : LamX.TabS B P (Tbs.q P) := by
  obtain ⟨ps, h1, g⟩ := e.t P _ h
  obtain ⟨h2, h3⟩ := g trivial
  refine ⟨ps, h1, h2, fun pos cv hc => ?_⟩
  rcases h3 pos cv hc with ⟨pos', z⟩ | ⟨c, z1, z2⟩
  · have z : codeAmong pos' [] = some cv := z
    simp [codeAmong] at z
  · exact ⟨c, z1, z2⟩
theorem ex_rd {a : Addr} {u : HO} (e : Ex A B) (h : Rd A a u) (t : isTbl u = false := by rfl) : Rd B a u := by
  rcases h with h | ⟨o, h⟩
  · exact .inl (e.k _ _ h t)
  · exact .inr ⟨o, e.k _ _ h rfl⟩
theorem ex_l {K : PySem.W.Frag} {a : Addr} {xs : List V} (e : Ex A B) (h : SqL K A a xs) : SqL K B a xs := h.elim (fun z => .inl (ex_rd e z)) .inr
theorem ex_t {K : PySem.W.Frag} {a : Addr} {xs : List V} (e : Ex A B) (h : SqT K A a xs) : SqT K B a xs := h.elim (fun z => .inl (ex_rd e z)) .inr
end

/-! ### data -/
inductive D where
  | non
  | bl (b : Bool)
  | int (i : Int)
  | str (s : Str)
  | tup (ds : List D)
  | lst (ds : List D)
  | tab (kvs : List (List Key × V))
  | dic (kvs : List (Key × V))

mutual
inductive Rp (K : PySem.W.Frag) (H : Hp) : V → D → Prop
  | non : Rp K H .non .non
  | bl (b : Bool) : Rp K H (.bl b) (.bl b)
  | int (i : Int) : Rp K H (.int i) (.int i)
  | str (x : Str) : Rp K H (.str x) (.str x)
  | tup {a : Addr} {xs : List V} {ds : List D} : H a = some (.tup xs) → RpA K H xs ds → Rp K H (.ref a) (.tup ds)
  | lst {a : Addr} {xs : List V} {ds : List D} : H a = some (.lst xs) → RpA K H xs ds → Rp K H (.ref a) (.lst ds)
  | tab {a : Addr} {kvs : List (List Key × V)} : H a = some (.dT kvs) → Rp K H (.ref a) (.tab kvs)
  | dic {a : Addr} {kvs : List (Key × V)} : H a = some (.dK kvs) → Rp K H (.ref a) (.dic kvs)
inductive RpA (K : PySem.W.Frag) (H : Hp) : List V → List D → Prop
  | nil : RpA K H [] []
  | cons {v : V} {vs : List V} {d : D} {ds : List D} : Rp K H v d → RpA K H vs ds → RpA K H (v :: vs) (d :: ds)
end

section
variable [Tbs] {K : PySem.W.Frag} {H H' G G' : Hp}
mutual
theorem Rp.exk (e : Kx H H') : ∀ {d : D} {v : V}, Rp K H v d → Rp K H' v d
  | .non, _, h => by cases h; exact .non
  | .bl _, _, h => by cases h; exact .bl _
  | .int _, _, h => by cases h; exact .int _
  | .str _, _, h => by cases h; exact .str _
  | .tup _, _, h => by
    cases h with
    | tup hs ha => exact .tup (e _ _ hs rfl) (RpA.exk e ha)
  | .lst _, _, h => by
    cases h with
    | lst hs ha => exact .lst (e _ _ hs rfl) (RpA.exk e ha)
  | .tab _, _, h => by
    cases h with
    | tab hs => exact .tab (e _ _ hs rfl)
  | .dic _, _, h => by
    cases h with
    | dic hs => exact .dic (e _ _ hs rfl)
theorem RpA.exk (e : Kx H H') : ∀ {ds : List D} {vs : List V}, RpA K H vs ds → RpA K H' vs ds
  | [], _, h => by cases h; exact .nil
  | _ :: _, _, h => by
    cases h with
    | cons h1 h2 => exact .cons (Rp.exk e h1) (RpA.exk e h2)
end
theorem Rp.ex (e : Ex H H') {d : D} {v : V} (r : Rp K H v d) : Rp K H' v d := r.exk e.k
theorem RpA.ex (e : Ex H H') {ds : List D} {vs : List V} (r : RpA K H vs ds) : RpA K H' vs ds := r.exk e.k
theorem Rp.int_of {v : V} {i : Int} (h : Rp K H v (.int i)) : v = .int i := by cases h; rfl
theorem Rp.bl_of {v : V} {i : Bool} (h : Rp K H v (.bl i)) : v = .bl i := by cases h; rfl
theorem Rp.str_of {v : V} {i : Str} (h : Rp K H v (.str i)) : v = .str i := by cases h; rfl
theorem Rp.non_of {v : V} (h : Rp K H v .non) : v = .non := by cases h; rfl
theorem Rp.tup_of {v : V} {ds : List D} (h : Rp K H v (.tup ds)) : ∃ a xs, v = .ref a ∧ H a = some (.tup xs) ∧ RpA K H xs ds := by
  cases h with
  | tup hs ha => exact ⟨_, _, rfl, hs, ha⟩
theorem Rp.lst_of {v : V} {ds : List D} (h : Rp K H v (.lst ds)) : ∃ a xs, v = .ref a ∧ H a = some (.lst xs) ∧ RpA K H xs ds := by
  cases h with
  | lst hs ha => exact ⟨_, _, rfl, hs, ha⟩
theorem Rp.tab_of {v : V} {kvs : List (List Key × V)} (h : Rp K H v (.tab kvs)) : ∃ a, v = .ref a ∧ H a = some (.dT kvs) := by
  cases h with
  | tab hs => exact ⟨_, rfl, hs⟩
theorem Rp.dic_of {v : V} {kvs : List (Key × V)} (h : Rp K H v (.dic kvs)) : ∃ a, v = .ref a ∧ H a = some (.dK kvs) := by
  cases h with
  | dic hs => exact ⟨_, rfl, hs⟩
theorem RpA.len : ∀ {ds : List D} {vs : List V}, RpA K H vs ds → vs.length = ds.length
  | [], _, h => by cases h; rfl
  | _ :: _, _, h => by
    cases h with
    | cons h1 h2 => rw [List.length_cons, List.length_cons, RpA.len h2]
theorem RpA.get : ∀ {ds : List D} {vs : List V} {i : Nat} {v : V}, RpA K H vs ds → vs[i]? = some v → ∃ d, ds[i]? = some d ∧ Rp K H v d
  | [], _, i, v, h, e => by cases h; simp at e
  | d :: ds, _, 0, v, h, e => by
    cases h with
    | cons h1 h2 =>
      have q := Option.some.inj e
      subst q
      exact ⟨d, rfl, h1⟩
  | d :: ds, _, i + 1, v, h, e => by
    cases h with
    | cons h1 h2 => exact RpA.get (i := i) h2 e
theorem RpA.at {ds : List D} {vs : List V} {i : Nat} {d : D} (h : RpA K H vs ds) (e : ds[i]? = some d) : ∃ v, vs[i]? = some v ∧ Rp K H v d := by
  have hl : i < ds.length := (List.getElem?_eq_some_iff.mp e).1
  have hv : i < vs.length := by rw [h.len]; exact hl
  obtain ⟨d', e', r⟩ := h.get (List.getElem?_eq_getElem hv)
  rw [e] at e'
  cases Option.some.inj e'
  exact ⟨_, List.getElem?_eq_getElem hv, r⟩
theorem RpA.snoc : ∀ {ds : List D} {vs : List V} {v : V} {d : D}, RpA K H vs ds → Rp K H v d → RpA K H (vs ++ [v]) (ds ++ [d])
  | [], _, _, _, h, r => by cases h; exact .cons r .nil
  | _ :: _, _, _, _, h, r => by
    cases h with
    | cons h1 h2 => exact .cons h1 (RpA.snoc h2 r)
theorem RpA.app : ∀ {ds : List D} {vs ws : List V} {es : List D}, RpA K H vs ds → RpA K H ws es → RpA K H (vs ++ ws) (ds ++ es)
  | [], _, _, _, h, r => by cases h; exact r
  | _ :: _, _, _, _, h, r => by
    cases h with
    | cons h1 h2 => exact .cons h1 (RpA.app h2 r)
theorem RpA.take : ∀ {ds : List D} {vs : List V} (n : Nat), RpA K H vs ds → RpA K H (vs.take n) (ds.take n)
  | _, _, 0, _ => .nil
  | [], _, n + 1, h => by cases h; exact .nil
  | _ :: _, _, n + 1, h => by
    cases h with
    | cons h1 h2 => exact .cons h1 (RpA.take n h2)
theorem RpA.drop : ∀ {ds : List D} {vs : List V} (n : Nat), RpA K H vs ds → RpA K H (vs.drop n) (ds.drop n)
  | _, _, 0, h => h
  | [], _, n + 1, h => by cases h; exact .nil
  | _ :: _, _, n + 1, h => by
    cases h with
    | cons h1 h2 => exact RpA.drop n h2
theorem RpA.erase : ∀ {ds : List D} {vs : List V} (n : Nat), RpA K H vs ds → RpA K H (vs.eraseIdx n) (ds.eraseIdx n)
  | [], _, n, h => by cases h; exact .nil
  | _ :: _, _, 0, h => by
    cases h with
    | cons h1 h2 => exact h2
  | _ :: _, _, n + 1, h => by
    cases h with
    | cons h1 h2 => exact .cons h1 (RpA.erase n h2)
theorem RpA.ints : ∀ {ns : List Int} {vs : List V}, RpA K H vs (ns.map D.int) → vs = ns.map V.int
  | [], _, h => by cases h; rfl
  | n :: ns, _, h => by
    cases h with
    | cons h1 h2 =>
      cases h1
      rw [RpA.ints h2]
      rfl
theorem RpA.of_ints : ∀ {ns : List Int}, RpA K H (ns.map V.int) (ns.map D.int)
  | [] => .nil
  | _ :: _ => .cons (.int _) RpA.of_ints

/-! ### data without tables, as PyData -/
mutual
def D.py : D → PyData
  | .non => .none
  | .bl b => .bool b
  | .int i => .int i
  | .str s => .str s
  | .tup ds => .tuple (D.pyA ds)
  | .lst ds => .list (D.pyA ds)
  | .tab _ => .none
  | .dic _ => .none
def D.pyA : List D → List PyData
  | [] => []
  | d :: ds => d.py :: D.pyA ds
end
mutual
def D.plain : D → Bool
  | .tup ds => D.plainA ds
  | .lst ds => D.plainA ds
  | .tab _ => false
  | .dic _ => false
  | _ => true
def D.plainA : List D → Bool
  | [] => true
  | d :: ds => d.plain && D.plainA ds
end
mutual
theorem Rp.dp : ∀ {d : D} {v : V}, Rp K H v d → d.plain = true → Dp K H v d.py
  | .non, _, h, _ => by cases h; exact .non
  | .bl _, _, h, _ => by cases h; exact .bl _
  | .int _, _, h, _ => by cases h; exact .int _
  | .str _, _, h, _ => by cases h; exact .str _
  | .tup _, _, h, p => by
    cases h with
    | tup hs ha => exact .tup (.of hs) (RpA.dp ha p)
  | .lst _, _, h, p => by
    cases h with
    | lst hs ha => exact .lst (.of hs) (RpA.dp ha p)
  | .tab _, _, h, p => by cases p
  | .dic _, _, h, p => by cases p
theorem RpA.dp : ∀ {ds : List D} {vs : List V}, RpA K H vs ds → D.plainA ds = true → DpAll K H vs (D.pyA ds)
  | [], _, h, _ => by cases h; exact .nil
  | d :: ds, _, h, p => by
    cases h with
    | cons h1 h2 =>
      have q : (d.plain && D.plainA ds) = true := p
      rw [Bool.and_eq_true] at q
      exact .cons (Rp.dp h1 q.1) (RpA.dp h2 q.2)
end
end

/-! ### a step: G the part that never changes any more, H the heap -/
def isTup : HO → Bool
  | .tup _ => true
  | _ => false
structure Step [Tbs] (G H G' H' : Hp) : Prop where
  g : Ex G G'
  i : Ex G' H'
  h : Ex H H'
  n : ∀ b o, G b = none → H b = some o → isTup o = false → G' b = none
  c : ∀ b o, H b = none → H' b = some o → isCode o = true → G' b ≠ none
section
variable [Tbs] {K : PySem.W.Frag} {G H G1 H1 G2 H2 : Hp}
theorem Step.refl (e : Ex G H) : Step G H G H := ⟨Ex.refl _, e, Ex.refl _, fun _ _ h _ _ => h, fun b o h1 h2 _ => by rw [h1] at h2; cases h2⟩
theorem Step.back {p : Addr} (e : Ex G H) (h : H p = none) : G p = none := fresh_back e h
theorem Step.trans (a : Step G H G1 H1) (b : Step G1 H1 G2 H2) : Step G H G2 H2 := by
  refine ⟨a.g.trans b.g, b.i, a.h.trans b.h, fun x o h1 h2 h3 => ?_, fun x o h1 h2 h3 => ?_⟩
  · cases o with
    | tbl ps =>
      obtain ⟨ps', h', _⟩ := a.h.t x ps h2
      exact b.n x _ (a.n x _ h1 h2 h3) h' rfl
    | _ => exact b.n x _ (a.n x _ h1 h2 h3) (a.h.k x _ h2 rfl) h3
  · cases z : H1 x with
    | none => exact b.c x o z h2 h3
    | some u =>
      have hu : isCode u = true := by
        cases u with
        | tbl _ => rfl
        | ext _ => rfl
        | _ =>
          have h' := b.h.k x _ z rfl
          rw [h2] at h'
          cases h'
          exact h3
      have h' := a.c x u h1 z hu
      intro z2
      exact h' (fresh_back b.g z2)
theorem Ex.both {p : Addr} {o : HO} (e : Ex G H) (h : H p = none) (nc : isCode o = false) : Ex (upd G p o) (upd H p o) := by
  refine ⟨fun b u hb t => ?_, fun b ps hb => ?_⟩
  · by_cases z : b = p
    · subst z; rw [upd_same] at hb; rw [upd_same]; exact hb
    · rw [upd_ne z] at hb; rw [upd_ne z]; exact e.k b u hb t
  · by_cases z : b = p
    · subst z; rw [upd_same] at hb; cases hb; cases nc
    · rw [upd_ne z] at hb
      obtain ⟨ps', h1, g⟩ := e.t b ps hb
      exact ⟨ps', by rw [upd_ne z]; exact h1, g.to (Ex.new h).k⟩
/-- a new object that stays as it is -/
theorem Step.new {p : Addr} {o : HO} (e : Ex G H) (h : H p = none) (nc : isCode o = false := by rfl) : Step G H (upd G p o) (upd H p o) := by
  have gp := fresh_back e h
  refine ⟨Ex.new gp, e.both h nc, Ex.new h, fun b u h1 h2 _ => ?_, fun b u h1 h2 h3 => ?_⟩
  · by_cases z : b = p
    · subst z; rw [h] at h2; cases h2
    · rw [upd_ne z]; exact h1
  · by_cases z : b = p
    · subst z; rw [upd_same] at h2; cases h2; rw [nc] at h3; cases h3
    · rw [upd_ne z, h1] at h2; cases h2
/-- a new object that may change yet -/
theorem Step.own {p : Addr} {o : HO} (e : Ex G H) (h : H p = none) (nc : isCode o = false := by rfl) : Step G H G (upd H p o) :=
  ⟨Ex.refl _, e.trans (Ex.new h), Ex.new h, fun _ _ h _ _ => h, fun b u h1 h2 h3 => by
    by_cases z : b = p
    · subst z; rw [upd_same] at h2; cases h2; rw [nc] at h3; cases h3
    · rw [upd_ne z, h1] at h2; cases h2⟩
theorem Step.nocode {p : Addr} (s : Step G H G1 H1) (h : H p = none) (g : G1 p = none) : ∀ u, H1 p = some u → isCode u = false := fun u hu => by
  cases z : isCode u with
  | false => rfl
  | true => exact absurd g (s.c p u h hu z)
/-- an own object changes -/
theorem Step.mut {p : Addr} {o : HO} (s : Step G H G1 H1) (h : H p = none) (g : G1 p = none) (nc : isCode o = false := by rfl) : Step G H G1 (upd H1 p o) :=
  ⟨s.g, Ex.mut s.i g (s.nocode h g), Ex.mut s.h h (s.nocode h g), s.n, fun b u h1 h2 h3 => by
    by_cases z : b = p
    · subst z; rw [upd_same] at h2; cases h2; rw [nc] at h3; cases h3
    · rw [upd_ne z] at h2; exact s.c b u h1 h2 h3⟩
/-- taken into what stays -/
theorem Ex.take {p : Addr} {o : HO} (e : Ex G H) (x : H p = some o) (nc : isCode o = false) : Ex (upd G p o) H := by
  refine ⟨fun b u hb t => ?_, fun b ps hb => ?_⟩
  · by_cases z : b = p
    · subst z; rw [upd_same] at hb; cases hb; exact x
    · rw [upd_ne z] at hb; exact e.k b u hb t
  · by_cases z : b = p
    · subst z; rw [upd_same] at hb; cases hb; cases nc
    · rw [upd_ne z] at hb; exact e.t b ps hb
/-- an own object changes no more -/
theorem Step.freeze {p : Addr} {o : HO} (s : Step G H G1 H1) (h : H p = none) (g : G1 p = none) (x : H1 p = some o) : Step G H (upd G1 p o) H1 :=
  ⟨s.g.trans (Ex.new g), s.i.take x (s.nocode h g o x), s.h, fun b u h1 h2 h3 => by
    by_cases z : b = p
    · subst z; rw [h] at h2; cases h2
    · rw [upd_ne z]; exact s.n b u h1 h2 h3, fun b u h1 h2 h3 => by
    by_cases z : b = p
    · subst z; rw [upd_same]; intro q; cases q
    · rw [upd_ne z]; exact s.c b u h1 h2 h3⟩
/-- a tuple never changes -/
theorem Step.tup {p : Addr} {xs : List V} (e : Ex G H) (x : H p = some (.tup xs)) : Step G H (upd G p (.tup xs)) H := by
  by_cases gp : G p = none
  · exact ⟨Ex.new gp, e.take x rfl, Ex.refl _, fun b u h1 h2 h3 => by
      by_cases z : b = p
      · subst z; rw [x] at h2; cases h2; cases h3
      · rw [upd_ne z]; exact h1, fun b o h1 h2 _ => by rw [h1] at h2; cases h2⟩
  · have e1 : upd G p (.tup xs) = G := by
      funext b
      by_cases z : b = p
      · subst z
        rw [upd_same]
        cases q : G b with
        | none => exact absurd q gp
        | some o =>
          cases o with
          | tbl ps =>
            obtain ⟨ps', h', _⟩ := e.t b ps q
            rw [x] at h'
            cases h'
          | _ =>
            have h' := e.k b _ q rfl
            rw [x] at h'
            exact h'
      · rw [upd_ne z]
    rw [e1]
    exact Step.refl e
/-- an own object through a step -/
theorem Step.keep {p : Addr} {o : HO} (s : Step G H G1 H1) (g : G p = none) (x : H p = some o) (t : isTup o = false := by rfl) (tt : isTbl o = false := by rfl) : G1 p = none ∧ H1 p = some o :=
  ⟨s.n p o g x t, s.h.k p o x tt⟩
theorem Step.pre {p : Addr} (s : Step G H G1 H1) (h : H1 p = none) : H p = none := fresh_back s.h h
theorem Step.ex {H0 : Hp} (e : Ex H0 H) (s : Step G H G1 H1) : Ex H0 H1 := e.trans s.h
end

/-! ### what an expression comes to -/
section
variable [Tbs] (K : PySem.W.Frag)
def EvD (te : TE) (σ : L2.St) (G : Hp) (d : D) : Prop := ∀ H, Ex G H → ∀ Q : VK, (∀ v G' H', Step G H G' H' → Rp K G' v d → Q v H') → te σ H Q
/-- a new list -/
def EvF (te : TE) (σ : L2.St) (G : Hp) (ds : List D) : Prop := ∀ H, Ex G H → ∀ Q : VK, (∀ p xs G' H', Step G H G' H' → H p = none → G' p = none → H' p = some (.lst xs) → RpA K G' xs ds → Q (.ref p) H') → te σ H Q
def EvB (tt : TT) (σ : L2.St) (G : Hp) (b : Bool) : Prop := ∀ H, Ex G H → ∀ Q : Bool → Hp → Prop, (∀ G' H', Step G H G' H' → Q b H') → tt σ H Q
def EvAs (ta : TA) (σ : L2.St) (G : Hp) (ds : List D) : Prop := ∀ H, Ex G H → ∀ Q : List V → Hp → Prop, (∀ vs G' H', Step G H G' H' → RpA K G' vs ds → Q vs H') → ta σ H Q
def EvP (to : TO) (σ : L2.St) (G : Hp) (o : Option Int) : Prop := ∀ H, Ex G H → ∀ Q : Option Int → Hp → Prop, (∀ G' H', Step G H G' H' → Q o H') → to σ H Q
end
theorem Step.widen [Tbs] {G H G' H' G1 : Hp} (e : Ex G G1) (a : Ex G1 H) (s : Step G H G' H') : ∃ G2, Step G1 H G2 H' ∧ Kx G' G2 ∧ ∀ b, H b = none → G' b = none → G2 b = none := by
  have kk : ∀ b, G1 b = none → (fun b => match G1 b with | some o => some o | none => G' b) b = G' b := fun b hb => by
    show (match G1 b with | some o => some o | none => G' b) = G' b
    rw [hb]
  have ks : ∀ b o, G1 b = some o → (fun b => match G1 b with | some o => some o | none => G' b) b = some o := fun b o hb => by
    show (match G1 b with | some o => some o | none => G' b) = some o
    rw [hb]
  generalize (fun b => match G1 b with | some o => some o | none => G' b) = G2 at kk ks
  -- what stands in both
  have same : ∀ b o, G' b = some o → isTbl o = false → G2 b = some o := fun b o hb t => by
    cases q : G1 b with
    | none => rw [kk b q]; exact hb
    | some u =>
      rw [ks b u q]
      have w2 := s.i.k b o hb t
      cases u with
      | tbl ps =>
        obtain ⟨ps', h1, _⟩ := a.t b ps q
        obtain ⟨ps2, h2, _⟩ := s.h.t b ps' h1
        rw [w2] at h2
        cases h2
        cases t
      | _ =>
        have w1 := s.h.k b _ (a.k b _ q rfl) rfl
        rw [w2] at w1
        exact w1.symm
  have notbl : ∀ b ps, G1 b = none → G' b = some (.tbl ps) → G b = none := fun b ps q _ => fresh_back e q
  refine ⟨G2, ⟨.of ks, ⟨fun b o hb t => ?_, fun b ps hb => ?_⟩, s.h, fun b u h1 h2 h3 => ?_, fun b u h1 h2 h3 => ?_⟩, same, fun b h1 h2 => ?_⟩
  · cases q : G1 b with
    | none => rw [kk b q] at hb; exact s.i.k b o hb t
    | some u =>
      rw [ks b u q] at hb
      cases hb
      exact s.h.k b _ (a.k b _ q t) t
  · cases q : G1 b with
    | none => rw [kk b q] at hb; exact s.i.t b ps hb
    | some u =>
      rw [ks b u q] at hb
      cases hb
      exact (a.trans s.h).t b ps q
  · rw [kk b h1]
    exact s.n b u (fresh_back e h1) h2 h3
  · have z := s.c b u h1 h2 h3
    intro q
    have q1 : G1 b = none := fresh_back a h1
    rw [kk b q1] at q
    exact z q
  · rw [kk b (fresh_back a h1)]
    exact h2

section
variable [Tbs] {K : PySem.W.Frag} {σ : L2.St} {G G1 H : Hp} {ta tb tc te tx : TE} {t u : TT} {x y z v : V} {d d1 d2 d3 : D} {ds es : List D} {as bs : TA} {i j k n m : Int} {a b c : Bool}
theorem EvD.mono (e : Ex G G1) (h : EvD K te σ G d) : EvD K te σ G1 d := fun H a Q q => h H (e.trans a) Q fun v G' H' s r => by
  obtain ⟨G2, s2, e2, _⟩ := s.widen e a
  exact q v G2 H' s2 (r.exk e2)
theorem EvF.mono (e : Ex G G1) (h : EvF K te σ G ds) : EvF K te σ G1 ds := fun H a Q q => h H (e.trans a) Q fun p xs G' H' s h1 h2 h3 r => by
  obtain ⟨G2, s2, e2, n2⟩ := s.widen e a
  exact q p xs G2 H' s2 h1 (n2 p h1 h2) h3 (r.exk e2)
theorem EvB.mono {b : Bool} (e : Ex G G1) (h : EvB t σ G b) : EvB t σ G1 b := fun H a Q q => h H (e.trans a) Q fun G' H' s => by
  obtain ⟨G2, s2, e2, n2⟩ := s.widen e a
  exact q G2 H' s2
theorem EvAs.mono (e : Ex G G1) (h : EvAs K as σ G ds) : EvAs K as σ G1 ds := fun H a Q q => h H (e.trans a) Q fun v G' H' s r => by
  obtain ⟨G2, s2, e2, _⟩ := s.widen e a
  exact q v G2 H' s2 (r.exk e2)
/-- a new list, as data -/
theorem EvF.toD (h : EvF K te σ G ds) : EvD K te σ G (.lst ds) := fun H a Q q => h H a Q fun p xs G' H' s h1 h2 h3 r =>
  q _ _ H' (s.freeze h1 h2 h3) (.lst upd_same (r.ex (Ex.new h2)))
theorem EvD.eq (h : EvD K te σ G d) (e : d = d1) : EvD K te σ G d1 := e ▸ h
theorem EvF.eq (h : EvF K te σ G ds) (e : ds = es) : EvF K te σ G es := e ▸ h
theorem EvB.eq (h : EvB t σ G a) (e : a = b) : EvB t σ G b := e ▸ h

/-! #### names, constants -/
theorem e_var {i : Nat} (h : σ[i]? = some (some v)) (r : Rp K G v d) : EvD K (tVar i) σ G d := fun H e Q q => ⟨v, h, q v G H (Step.refl e) r⟩
theorem e_int {i : Int} : EvD K (tC (.int i)) σ G (.int i) := fun H e Q q => q _ G H (Step.refl e) (.int i)
theorem e_bl {b : Bool} : EvD K (tC (.bl b)) σ G (.bl b) := fun H e Q q => q _ G H (Step.refl e) (.bl b)
theorem e_str {x : Str} : EvD K (tC (.str x)) σ G (.str x) := fun H e Q q => q _ G H (Step.refl e) (.str x)
theorem e_non : EvD K (tC .non) σ G .non := fun H e Q q => q _ G H (Step.refl e) .non
theorem e_c (r : Rp K G v d) : EvD K (tC v) σ G d := fun H e Q q => q _ G H (Step.refl e) r

/-! #### two values, an operation on values -/
theorem e_op {r : R2} (ha : EvD K ta σ G d1) (hb : EvD K tb σ G d2) (hr : ∀ x y G1 H1 Q, Ex G G1 → Ex G1 H1 → Rp K G1 x d1 → Rp K G1 y d2 → (∀ v G2 H2, Step G1 H1 G2 H2 → Rp K G2 v d → Q v H2) → r x y H1 Q) : EvD K (tOp r ta tb) σ G d := fun H e Q q =>
  ha H e _ fun x G1 H1 s1 r1 => (hb.mono s1.g) H1 s1.i _ fun y G2 H2 s2 r2 => hr x y G2 H2 Q (s1.g.trans s2.g) s2.i (r1.ex s2.g) r2 fun v G3 H3 s3 r3 => q v G3 H3 ((s1.trans s2).trans s3) r3
theorem e_I0 {g : Int → Int → V} (ha : EvD K ta σ G (.int i)) (hb : EvD K tb σ G (.int j)) (hg : ∀ H, Rp K H (g i j) d) : EvD K (tOp (rI0 g) ta tb) σ G d :=
  e_op ha hb fun x y G1 H1 Q e1 e2 r1 r2 q => ⟨i, j, r1.int_of, r2.int_of, q _ G1 H1 (Step.refl e2) (hg _)⟩
theorem e_I {C : Int → Int → Prop} {g : Int → Int → V} (ha : EvD K ta σ G (.int i)) (hb : EvD K tb σ G (.int j)) (hc : C i j) (hg : ∀ H, Rp K H (g i j) d) : EvD K (tOp (rI C g) ta tb) σ G d :=
  e_op ha hb fun x y G1 H1 Q e1 e2 r1 r2 q => ⟨i, j, r1.int_of, r2.int_of, hc, q _ G1 H1 (Step.refl e2) (hg _)⟩
theorem e_add (ha : EvD K ta σ G (.int i)) (hb : EvD K tb σ G (.int j)) : EvD K (tOp (rI0 fun i j => .int (i + j)) ta tb) σ G (.int (i + j)) := e_I0 ha hb fun _ => .int _
theorem e_sub (ha : EvD K ta σ G (.int i)) (hb : EvD K tb σ G (.int j)) : EvD K (tOp (rI0 fun i j => .int (i - j)) ta tb) σ G (.int (i - j)) := e_I0 ha hb fun _ => .int _
theorem e_mul (ha : EvD K ta σ G (.int i)) (hb : EvD K tb σ G (.int j)) (hc : CMul i j) : EvD K (tOp (rI CMul fun i j => .int (i * j)) ta tb) σ G (.int (i * j)) := e_I ha hb hc fun _ => .int _
theorem e_mod (ha : EvD K ta σ G (.int i)) (hb : EvD K tb σ G (.int j)) (hc : 0 < j) : EvD K (tOp (rI (fun _ j => 0 < j) fun i j => .int (i % j)) ta tb) σ G (.int (i % j)) := e_I ha hb hc fun _ => .int _
theorem e_fdiv (ha : EvD K ta σ G (.int i)) (hb : EvD K tb σ G (.int j)) (hc : CDiv i j) : EvD K (tOp (rI CDiv fun i j => .int (i / j)) ta tb) σ G (.int (i / j)) := e_I ha hb hc fun _ => .int _
theorem e_pow (ha : EvD K ta σ G (.int i)) (hb : EvD K tb σ G (.int j)) (hc : CPow i j) : EvD K (tOp (rI CPow fun i j => .int (i ^ j.toNat)) ta tb) σ G (.int (i ^ j.toNat)) := e_I ha hb hc fun _ => .int _
theorem e_lt (ha : EvD K ta σ G (.int i)) (hb : EvD K tb σ G (.int j)) : EvD K (tOp (rI0 fun i j => .bl (decide (i < j))) ta tb) σ G (.bl (decide (i < j))) := e_I0 ha hb fun _ => .bl _
theorem e_le (ha : EvD K ta σ G (.int i)) (hb : EvD K tb σ G (.int j)) : EvD K (tOp (rI0 fun i j => .bl (decide (i ≤ j))) ta tb) σ G (.bl (decide (i ≤ j))) := e_I0 ha hb fun _ => .bl _
theorem e_gt (ha : EvD K ta σ G (.int i)) (hb : EvD K tb σ G (.int j)) : EvD K (tOp (rI0 fun i j => .bl (decide (j < i))) ta tb) σ G (.bl (decide (j < i))) := e_I0 ha hb fun _ => .bl _
theorem e_ge (ha : EvD K ta σ G (.int i)) (hb : EvD K tb σ G (.int j)) : EvD K (tOp (rI0 fun i j => .bl (decide (j ≤ i))) ta tb) σ G (.bl (decide (j ≤ i))) := e_I0 ha hb fun _ => .bl _
theorem e_addS {p q : Str} (ha : EvD K ta σ G (.str p)) (hb : EvD K tb σ G (.str q)) (hl : p.length + q.length ≤ sizeLine) :
    EvD K (tOp (fun x y H Q => ∃ i j, x = .str i ∧ y = .str j ∧ i.length + j.length ≤ sizeLine ∧ Q (.str (i ++ j)) H) ta tb) σ G (.str (p ++ q)) :=
  e_op ha hb fun x y G1 H1 Q e1 e2 r1 r2 k => ⟨p, q, r1.str_of, r2.str_of, hl, k _ G1 H1 (Step.refl e2) (.str _)⟩

/-! #### == and != -/
def rEqA (K : PySem.W.Frag) : R2 := fun x y H Q => rEq x y H Q ∨ rEqD K x y H Q
def rNeA (K : PySem.W.Frag) : R2 := fun x y H Q => rNe x y H Q ∨ rNeD K x y H Q
theorem op_eqA {X : Cx} (hu : X.A.units + 64 < cLine) : OpR X (compareOp .Eq) (rEqA X.K) := op_eq.or (op_eqD hu)
theorem op_neA {X : Cx} (hu : X.A.units + 64 < cLine) : OpR X (compareOp .NotEq) (rNeA X.K) := op_ne.or (op_neD hu)
def D.eqS : D → D → Option Bool
  | .int i, .int j => some (decide (i = j))
  | .str i, .str j => some (decide (i = j))
  | .bl i, .bl j => some (decide (i = j))
  | _, _ => none
theorem dec_iff {p q : Prop} [Decidable p] [Decidable q] (h : p ↔ q) : decide p = decide q := by
  by_cases hp : p
  · rw [decide_eq_true hp, decide_eq_true (h.mp hp)]
  · rw [decide_eq_false hp, decide_eq_false (fun z => hp (h.mpr z))]
theorem eqS_scal {r : Bool} (r1 : Rp K G x d1) (r2 : Rp K G y d2) (h : d1.eqS d2 = some r) : scal x y = true ∧ decide (x = y) = r := by
  cases r1 <;> cases r2 <;> first | cases h | skip
  · exact ⟨rfl, dec_iff ⟨fun h => V.bl.inj h, fun h => congrArg _ h⟩⟩
  · exact ⟨rfl, dec_iff ⟨fun h => V.int.inj h, fun h => congrArg _ h⟩⟩
  · exact ⟨rfl, dec_iff ⟨fun h => V.str.inj h, fun h => congrArg _ h⟩⟩
theorem e_eq {r : Bool} (ha : EvD K ta σ G d1) (hb : EvD K tb σ G d2) (h : d1.eqS d2 = some r) : EvD K (tOp (rEqA K) ta tb) σ G (.bl r) :=
  e_op ha hb fun x y G1 H1 Q e1 e2 r1 r2 k => by
    obtain ⟨h1, h2⟩ := eqS_scal r1 r2 h
    refine .inl ⟨h1, ?_⟩
    rw [h2]
    exact k _ G1 H1 (Step.refl e2) (.bl _)
theorem e_ne {r : Bool} (ha : EvD K ta σ G d1) (hb : EvD K tb σ G d2) (h : d1.eqS d2 = some r) : EvD K (tOp (rNeA K) ta tb) σ G (.bl (!r)) :=
  e_op ha hb fun x y G1 H1 Q e1 e2 r1 r2 k => by
    obtain ⟨h1, h2⟩ := eqS_scal r1 r2 h
    refine .inl ⟨h1, ?_⟩
    rw [h2]
    exact k _ G1 H1 (Step.refl e2) (.bl _)
def D.ok (d : D) : Bool := d.plain && SeqAt.shaped d.py
theorem e_eqD (ha : EvD K ta σ G d1) (hb : EvD K tb σ G d2) (h1 : d1.ok = true) (h2 : d2.ok = true) : EvD K (tOp (rEqA K) ta tb) σ G (.bl (PyData.eqv d1.py d2.py)) :=
  e_op ha hb fun x y G1 H1 Q e1 e2 r1 r2 k => by
    have q1 := (Bool.and_eq_true _ _).mp h1
    have q2 := (Bool.and_eq_true _ _).mp h2
    exact .inr ⟨_, _, (r1.ex e2).dp q1.1, (r2.ex e2).dp q2.1, q1.2, q2.2, k _ G1 H1 (Step.refl e2) (.bl _)⟩
theorem e_neD (ha : EvD K ta σ G d1) (hb : EvD K tb σ G d2) (h1 : d1.ok = true) (h2 : d2.ok = true) : EvD K (tOp (rNeA K) ta tb) σ G (.bl (!PyData.eqv d1.py d2.py)) :=
  e_op ha hb fun x y G1 H1 Q e1 e2 r1 r2 k => by
    have q1 := (Bool.and_eq_true _ _).mp h1
    have q2 := (Bool.and_eq_true _ _).mp h2
    exact .inr ⟨_, _, (r1.ex e2).dp q1.1, (r2.ex e2).dp q2.1, q1.2, q2.2, k _ G1 H1 (Step.refl e2) (.bl _)⟩
theorem e_isN (ha : EvD K ta σ G d) (h : b = (match d with | .non => true | _ => false)) : EvD K (tOp (fun x y H Q => y = .non ∧ Q (.bl (decide (x = .non))) H) ta (tC .non)) σ G (.bl b) :=
  e_op (d2 := .non) ha e_non fun x y G1 H1 Q e1 e2 r1 r2 k => ⟨r2.non_of, by
    have z : decide (x = .non) = b := by subst h; cases r1 <;> rfl
    rw [z]
    exact k _ G1 H1 (Step.refl e2) (.bl _)⟩
theorem e_notN (ha : EvD K ta σ G d) (h : b = (match d with | .non => false | _ => true)) : EvD K (tOp (fun x y H Q => y = .non ∧ Q (.bl (!decide (x = .non))) H) ta (tC .non)) σ G (.bl b) :=
  e_op (d2 := .non) ha e_non fun x y G1 H1 Q e1 e2 r1 r2 k => ⟨r2.non_of, by
    have z : (!decide (x = .non)) = b := by subst h; cases r1 <;> rfl
    rw [z]
    exact k _ G1 H1 (Step.refl e2) (.bl _)⟩

/-! #### items, slices, in -/
def D.at (d : D) (i : Int) : Option D := match d with
  | .tup ds => atI ds i
  | .lst ds => atI ds i
  | _ => none
theorem atI_rp {xs : List V} (r : RpA K H xs ds) (h : atI ds i = some d) : ∃ v, atI xs i = some v ∧ Rp K H v d := by
  unfold atI at h ⊢
  rw [r.len]
  cases q : ixN ds.length i with
  | none => rw [q] at h; cases h
  | some j =>
    rw [q] at h
    exact r.at h
theorem e_ix (ha : EvD K ta σ G d1) (hb : EvD K tb σ G (.int i)) (h : d1.at i = some d) : EvD K (tOp (rIx K) ta tb) σ G d :=
  e_op ha hb fun x y G1 H1 Q e1 e2 r1 r2 k => by
    cases d1 with
    | tup ds =>
      obtain ⟨a, xs, rfl, hs, ha⟩ := r1.tup_of
      obtain ⟨v, hv, rv⟩ := atI_rp ha h
      exact .inr (.inl ⟨a, xs, i, v, rfl, r2.int_of, .of (e2 _ _ hs), hv, k v G1 H1 (Step.refl e2) rv⟩)
    | lst ds =>
      obtain ⟨a, xs, rfl, hs, ha⟩ := r1.lst_of
      obtain ⟨v, hv, rv⟩ := atI_rp ha h
      exact .inl ⟨a, xs, i, v, rfl, r2.int_of, .of (e2 _ _ hs), hv, k v G1 H1 (Step.refl e2) rv⟩
    | _ => cases h
theorem p_none : EvP tNoPart σ G none := fun H e Q q => q G H (Step.refl e)
theorem p_some (h : EvD K te σ G (.int i)) : EvP (tPart te) σ G (some i) := fun H e Q q => h H e _ fun v G1 H1 s r => ⟨i, r.int_of, q G1 H1 s⟩
theorem EvP.mono {to : TO} {o : Option Int} (e : Ex G G1) (h : EvP to σ G o) : EvP to σ G1 o := fun H a Q q => h H (e.trans a) Q fun G' H' s => by
  obtain ⟨G2, s2, e2, n2⟩ := s.widen e a
  exact q G2 H' s2
def cutD (ds : List D) (lo hi : Option Int) : List D := (ds.drop (HT.sIx ds.length 0 lo)).take (HT.sIx ds.length ds.length hi - HT.sIx ds.length 0 lo)
theorem RpA.cut {xs : List V} (r : RpA K H xs ds) (lo hi : Option Int) : RpA K H (cutV xs lo hi) (cutD ds lo hi) := by
  unfold cutV cutD
  rw [r.len]
  exact (r.drop _).take _
def rSlA (K : PySem.W.Frag) : V → Option Int → Option Int → Hp → VK → Prop := fun x lo hi H Q => rSlL K x lo hi H Q ∨ rSlT K x lo hi H Q
theorem sl_seq {X : Cx} : SlR X (rSlA X.K) := sl_list.or sl_tup
theorem f_sl {tl th : TO} {lo hi : Option Int} (h : EvD K te σ G (.lst ds)) (h1 : EvP tl σ G lo) (h2 : EvP th σ G hi) : EvF K (tSl (rSlA K) te tl th) σ G (cutD ds lo hi) := fun H e Q q =>
  h H e _ fun v G1 H1 s1 r1 => (h1.mono s1.g) H1 s1.i _ fun G2 H2 s2 => (h2.mono (s1.g.trans s2.g)) H2 s2.i _ fun G3 H3 s3 => by
    obtain ⟨a, xs, rfl, hs, ha⟩ := (r1.ex (s2.g.trans s3.g)).lst_of
    have s := (s1.trans s2).trans s3
    exact .inl ⟨a, xs, rfl, .of (s3.i _ _ hs), fun p hp => q p _ G3 _ (s.trans (Step.own s3.i hp)) (s.pre hp) (Step.back s3.i hp) upd_same (ha.cut lo hi)⟩
theorem e_slT {tl th : TO} {lo hi : Option Int} (h : EvD K te σ G (.tup ds)) (h1 : EvP tl σ G lo) (h2 : EvP th σ G hi) (hw : ¬ (HT.sIx ds.length 0 lo = 0 ∧ HT.sIx ds.length ds.length hi = ds.length)) (hd : cutD ds lo hi = es) : EvD K (tSl (rSlA K) te tl th) σ G (.tup es) := fun H e Q q =>
  h H e _ fun v G1 H1 s1 r1 => (h1.mono s1.g) H1 s1.i _ fun G2 H2 s2 => (h2.mono (s1.g.trans s2.g)) H2 s2.i _ fun G3 H3 s3 => by
    obtain ⟨a, xs, rfl, hs, ha⟩ := (r1.ex (s2.g.trans s3.g)).tup_of
    have s := (s1.trans s2).trans s3
    subst hd
    refine .inr ⟨a, xs, rfl, .of (s3.i _ _ hs), by rw [ha.len]; exact hw, fun p hp => q _ _ _ (s.trans (Step.new s3.i hp)) (.tup upd_same ((ha.cut lo hi).ex (Ex.new (Step.back s3.i hp))))⟩
theorem EvP.mono' {to : TO} {o : Option Int} (e : Ex G G1) (h : EvP to σ G o) : EvP to σ G1 o := EvP.mono e h

/-! #### in, not in: over flat items -/
def D.flat : D → Bool
  | .int _ => true
  | .str _ => true
  | .bl _ => true
  | .non => true
  | _ => false
def D.toV : D → V
  | .int i => .int i
  | .str i => .str i
  | .bl i => .bl i
  | _ => .non
theorem Rp.flat (r : Rp K H v d) (h : d.flat = true) : v = d.toV ∧ flatV v = true := by
  cases r <;> first | exact ⟨rfl, rfl⟩ | cases h
theorem RpA.flat : ∀ {ds : List D} {vs : List V}, RpA K H vs ds → ds.all D.flat = true → vs = ds.map D.toV ∧ vs.all flatV = true
  | [], _, h, _ => by cases h; exact ⟨rfl, rfl⟩
  | d :: ds, _, h, p => by
    cases h with
    | cons h1 h2 =>
      rw [List.all_cons, Bool.and_eq_true] at p
      obtain ⟨q1, q2⟩ := h1.flat p.1
      obtain ⟨q3, q4⟩ := RpA.flat h2 p.2
      refine ⟨by rw [List.map_cons, ← q1, ← q3], ?_⟩
      rw [List.all_cons, q2, q4]
      rfl
def D.items : D → List D
  | .tup ds => ds
  | .lst ds => ds
  | _ => []
def D.isSeq : D → Bool
  | .tup _ => true
  | .lst _ => true
  | _ => false
def inD (d : D) (ds : List D) : Bool := inV d.toV (ds.map D.toV)
theorem e_in (ha : EvD K ta σ G d1) (hb : EvD K tb σ G d2) (h0 : d2.isSeq = true) (h1 : d1.flat = true) (h2 : d2.items.all D.flat = true) : EvD K (tOp (rIn K false) ta tb) σ G (.bl (inD d1 d2.items)) :=
  e_op ha hb fun x y G1 H1 Q e1 e2 r1 r2 k => by
    obtain ⟨q1, q2⟩ := r1.flat h1
    cases d2 with
    | tup ds =>
      obtain ⟨a, xs, rfl, hs, ha⟩ := r2.tup_of
      obtain ⟨q3, q4⟩ := ha.flat h2
      refine ⟨a, xs, rfl, .inr (.of (e2 _ _ hs)), q2, q4, ?_⟩
      subst q1 q3
      exact k _ G1 H1 (Step.refl e2) (.bl _)
    | lst ds =>
      obtain ⟨a, xs, rfl, hs, ha⟩ := r2.lst_of
      obtain ⟨q3, q4⟩ := ha.flat h2
      refine ⟨a, xs, rfl, .inl (.of (e2 _ _ hs)), q2, q4, ?_⟩
      subst q1 q3
      exact k _ G1 H1 (Step.refl e2) (.bl _)
    | _ => cases h0
theorem e_nin (ha : EvD K ta σ G d1) (hb : EvD K tb σ G d2) (h0 : d2.isSeq = true) (h1 : d1.flat = true) (h2 : d2.items.all D.flat = true) : EvD K (tOp (rIn K true) ta tb) σ G (.bl (!inD d1 d2.items)) :=
  e_op ha hb fun x y G1 H1 Q e1 e2 r1 r2 k => by
    obtain ⟨q1, q2⟩ := r1.flat h1
    cases d2 with
    | tup ds =>
      obtain ⟨a, xs, rfl, hs, ha⟩ := r2.tup_of
      obtain ⟨q3, q4⟩ := ha.flat h2
      refine ⟨a, xs, rfl, .inr (.of (e2 _ _ hs)), q2, q4, ?_⟩
      subst q1 q3
      exact k _ G1 H1 (Step.refl e2) (.bl _)
    | lst ds =>
      obtain ⟨a, xs, rfl, hs, ha⟩ := r2.lst_of
      obtain ⟨q3, q4⟩ := ha.flat h2
      refine ⟨a, xs, rfl, .inl (.of (e2 _ _ hs)), q2, q4, ?_⟩
      subst q1 q3
      exact k _ G1 H1 (Step.refl e2) (.bl _)
    | _ => cases h0

/-! #### displays, arguments -/
theorem a_nil : EvAs K tNil σ G [] := fun H e Q q => q [] G H (Step.refl e) .nil
theorem a_cons (h : EvD K te σ G d) (hr : EvAs K as σ G ds) : EvAs K (tCons te as) σ G (d :: ds) := fun H e Q q =>
  h H e _ fun v G1 H1 s1 r1 => (hr.mono s1.g) H1 s1.i _ fun vs G2 H2 s2 r2 => q _ G2 H2 (s1.trans s2) (.cons (r1.ex s2.g) r2)
theorem a_one (h : EvD K te σ G d) : EvAs K (tCons te tNil) σ G [d] := a_cons h a_nil
theorem e_tup (h : EvAs K as σ G ds) (hl : ds.length ≤ 100000) : EvD K (tTup as) σ G (.tup ds) := fun H e Q q =>
  h H e _ fun vs G1 H1 s1 r1 => ⟨by rw [r1.len]; exact sz_of hl, fun p hp => q _ _ _ (s1.trans (Step.new s1.i hp)) (.tup upd_same (r1.ex (Ex.new (Step.back s1.i hp))))⟩
theorem f_lst (h : EvAs K as σ G ds) (hl : ds.length ≤ 100000) : EvF K (tLst as) σ G ds := fun H e Q q =>
  h H e _ fun vs G1 H1 s1 r1 => ⟨by rw [r1.len]; exact sz_of hl, fun p hp => q p vs G1 _ (s1.trans (Step.own s1.i hp)) (s1.pre hp) (Step.back s1.i hp) upd_same r1⟩

/-! #### tests, and, or, not, if -/
theorem b_test (h : EvD K te σ G (.bl b)) : EvB (tTest te) σ G b := fun H e Q q => h H e _ fun v G1 H1 s r => ⟨b, r.bl_of, q G1 H1 s⟩
theorem b_B (h : EvD K te σ G (.bl b)) : EvB (tB te) σ G b := fun H e Q q => h H e _ fun v G1 H1 s r => ⟨b, r.bl_of, q G1 H1 s⟩
theorem b_and (h1 : EvB t σ G a) (h2 : a = true → EvB u σ G b) : EvB (tAnd t u) σ G (a && b) := fun H e Q q => h1 H e _ fun G1 H1 s1 => by
  cases a with
  | true =>
    show u σ H1 Q
    exact ((h2 rfl).mono s1.g) H1 s1.i Q fun G2 H2 s2 => q G2 H2 (s1.trans s2)
  | false =>
    show Q false H1
    exact q G1 H1 s1
theorem b_or (h1 : EvB t σ G a) (h2 : a = false → EvB u σ G b) : EvB (tOr t u) σ G (a || b) := fun H e Q q => h1 H e _ fun G1 H1 s1 => by
  cases a with
  | true =>
    show Q true H1
    exact q G1 H1 s1
  | false =>
    show u σ H1 Q
    exact ((h2 rfl).mono s1.g) H1 s1.i Q fun G2 H2 s2 => q G2 H2 (s1.trans s2)
theorem b_not (h1 : EvB t σ G a) : EvB (tNot t) σ G (!a) := fun H e Q q => h1 H e _ fun G1 H1 s1 => q G1 H1 s1
theorem e_and (h1 : EvD K ta σ G (.bl a)) (h2 : a = true → EvD K tb σ G (.bl b)) : EvD K (tAndV ta tb) σ G (.bl (a && b)) := fun H e Q q => h1 H e _ fun v G1 H1 s1 r1 => ⟨a, r1.bl_of, by
  cases a with
  | true =>
    show tb σ H1 Q
    exact ((h2 rfl).mono s1.g) H1 s1.i Q fun v G2 H2 s2 r2 => q v G2 H2 (s1.trans s2) r2
  | false =>
    show Q (.bl false) H1
    exact q _ G1 H1 s1 (.bl _)⟩
theorem e_or (h1 : EvD K ta σ G (.bl a)) (h2 : a = false → EvD K tb σ G (.bl b)) : EvD K (tOrV ta tb) σ G (.bl (a || b)) := fun H e Q q => h1 H e _ fun v G1 H1 s1 r1 => ⟨a, r1.bl_of, by
  cases a with
  | true =>
    show Q (.bl true) H1
    exact q _ G1 H1 s1 (.bl _)
  | false =>
    show tb σ H1 Q
    exact ((h2 rfl).mono s1.g) H1 s1.i Q fun v G2 H2 s2 r2 => q v G2 H2 (s1.trans s2) r2⟩
theorem e_not (h1 : EvD K ta σ G (.bl a)) : EvD K (tNotV ta) σ G (.bl (!a)) := fun H e Q q => h1 H e _ fun v G1 H1 s1 r1 => ⟨a, r1.bl_of, q _ G1 H1 s1 (.bl _)⟩
theorem e_if (h : EvB t σ G a) (h1 : a = true → EvD K ta σ G d) (h2 : a = false → EvD K tb σ G d) : EvD K (tIf t ta tb) σ G d := fun H e Q q => h H e _ fun G1 H1 s1 => by
  cases a with
  | true =>
    show ta σ H1 Q
    exact ((h1 rfl).mono s1.g) H1 s1.i Q fun v G2 H2 s2 r2 => q v G2 H2 (s1.trans s2) r2
  | false =>
    show tb σ H1 Q
    exact ((h2 rfl).mono s1.g) H1 s1.i Q fun v G2 H2 s2 r2 => q v G2 H2 (s1.trans s2) r2
theorem e_if2 (h : EvB t σ G a) (h1 : a = true → EvD K ta σ G d1) (h2 : a = false → EvD K tb σ G d2) : EvD K (tIf t ta tb) σ G (if a = true then d1 else d2) :=
  e_if h (fun q => by subst q; exact h1 rfl) (fun q => by subst q; exact h2 rfl)
theorem e_chain {r r' : R2} (ha : EvD K ta σ G d1) (hb : EvD K tb σ G d2) (hc : a = true → EvD K tc σ G d3)
    (h1 : ∀ x y G1 H1 Q, Ex G G1 → Ex G1 H1 → Rp K G1 x d1 → Rp K G1 y d2 → Q (.bl a) H1 → r x y H1 Q)
    (h2 : ∀ y z G1 H1 Q, Ex G G1 → Ex G1 H1 → Rp K G1 y d2 → Rp K G1 z d3 → Q (.bl b) H1 → r' y z H1 Q) : EvD K (tChain r r' ta tb tc) σ G (.bl (a && b)) := fun H e Q q =>
  ha H e _ fun x G1 H1 s1 r1 => (hb.mono s1.g) H1 s1.i _ fun y G2 H2 s2 r2 => h1 x y G2 H2 _ (s1.g.trans s2.g) s2.i (r1.ex s2.g) r2 ⟨a, rfl, by
    have s12 := s1.trans s2
    cases a with
    | true =>
      exact ((hc rfl).mono s12.g) H2 s12.i _ fun z G3 H3 s3 r3 => h2 y z G3 H3 _ (s12.g.trans s3.g) s3.i (r2.ex s3.g) r3 (q _ G3 H3 (s12.trans s3) (.bl _))
    | false => exact q _ G2 H2 s12 (.bl _)⟩
theorem c_le : ∀ x y (G1 H1 : Hp) (Q : VK), Ex G G1 → Ex G1 H1 → Rp K G1 x (.int i) → Rp K G1 y (.int j) → Q (.bl (decide (i ≤ j))) H1 → rI0 (fun i j => .bl (decide (i ≤ j))) x y H1 Q :=
  fun x y G1 H1 Q e1 e2 r1 r2 k => ⟨i, j, r1.int_of, r2.int_of, k⟩
theorem c_lt : ∀ x y (G1 H1 : Hp) (Q : VK), Ex G G1 → Ex G1 H1 → Rp K G1 x (.int i) → Rp K G1 y (.int j) → Q (.bl (decide (i < j))) H1 → rI0 (fun i j => .bl (decide (i < j))) x y H1 Q :=
  fun x y G1 H1 Q e1 e2 r1 r2 k => ⟨i, j, r1.int_of, r2.int_of, k⟩

/-! #### built-ins -/
theorem e_cb {r : List V → Hp → VK → Prop} (h : EvAs K as σ G ds) (hr : ∀ vs G1 H1 Q, Ex G G1 → Ex G1 H1 → RpA K G1 vs ds → (∀ v G2 H2, Step G1 H1 G2 H2 → Rp K G2 v d → Q v H2) → r vs H1 Q) : EvD K (tCB r as) σ G d := fun H e Q q =>
  h H e _ fun vs G1 H1 s1 r1 => hr vs G1 H1 Q s1.g s1.i r1 fun v G2 H2 s2 r2 => q v G2 H2 (s1.trans s2) r2
theorem RpA.one {vs : List V} (r : RpA K H vs [d]) : ∃ v, vs = [v] ∧ Rp K H v d := by
  cases r with
  | cons r1 r2 => cases r2; exact ⟨_, rfl, r1⟩
theorem RpA.two {vs : List V} (r : RpA K H vs [d1, d2]) : ∃ v w, vs = [v, w] ∧ Rp K H v d1 ∧ Rp K H w d2 := by
  cases r with
  | cons r1 r2 =>
    obtain ⟨w, rfl, r3⟩ := r2.one
    exact ⟨_, _, rfl, r1, r3⟩
theorem RpA.three {vs : List V} (r : RpA K H vs [d1, d2, d3]) : ∃ v w u, vs = [v, w, u] ∧ Rp K H v d1 ∧ Rp K H w d2 ∧ Rp K H u d3 := by
  cases r with
  | cons r1 r2 =>
    obtain ⟨w, u, rfl, r3, r4⟩ := r2.two
    exact ⟨_, _, _, rfl, r1, r3, r4⟩
theorem RpA.four {vs : List V} {d4 : D} (r : RpA K H vs [d1, d2, d3, d4]) : ∃ v w u y, vs = [v, w, u, y] ∧ Rp K H v d1 ∧ Rp K H w d2 ∧ Rp K H u d3 ∧ Rp K H y d4 := by
  cases r with
  | cons r1 r2 =>
    obtain ⟨w, u, y, rfl, r3, r4, r5⟩ := r2.three
    exact ⟨_, _, _, _, rfl, r1, r3, r4, r5⟩
theorem RpA.five {vs : List V} {d4 d5 : D} (r : RpA K H vs [d1, d2, d3, d4, d5]) : ∃ v w u y z, vs = [v, w, u, y, z] ∧ Rp K H v d1 ∧ Rp K H w d2 ∧ Rp K H u d3 ∧ Rp K H y d4 ∧ Rp K H z d5 := by
  cases r with
  | cons r1 r2 =>
    obtain ⟨w, u, y, z, rfl, r3, r4, r5, r6⟩ := r2.four
    exact ⟨_, _, _, _, _, rfl, r1, r3, r4, r5, r6⟩
def D.len : D → Option Nat
  | .tup ds => some ds.length
  | .lst ds => some ds.length
  | _ => none
theorem e_len {n : Nat} (ha : EvD K ta σ G d) (h : d.len = some n) : EvD K (tCB (fun xs H Q => ∃ p ys, xs = [.ref p] ∧ (SqL K H p ys ∨ SqT K H p ys) ∧ Q (.int ys.length) H) (tCons ta tNil)) σ G (.int n) :=
  e_cb (a_one ha) fun vs G1 H1 Q e1 e2 r k => by
    obtain ⟨v, rfl, rr⟩ := r.one
    cases d with
    | tup ds =>
      cases Option.some.inj h
      obtain ⟨a, xs, rfl, hs, ha⟩ := rr.tup_of
      refine ⟨a, xs, rfl, .inr (.of (e2 _ _ hs)), ?_⟩
      rw [ha.len]
      exact k _ G1 H1 (Step.refl e2) (.int _)
    | lst ds =>
      cases Option.some.inj h
      obtain ⟨a, xs, rfl, hs, ha⟩ := rr.lst_of
      refine ⟨a, xs, rfl, .inl (.of (e2 _ _ hs)), ?_⟩
      rw [ha.len]
      exact k _ G1 H1 (Step.refl e2) (.int _)
    | _ => cases h
theorem e_sum {ns : List Int} (ha : EvD K ta σ G (.lst ds)) (h : ds = ns.map D.int) : EvD K (tCB (rSum K) (tCons ta tNil)) σ G (.int ns.sum) :=
  e_cb (a_one ha) fun vs G1 H1 Q e1 e2 r k => by
    obtain ⟨v, rfl, rr⟩ := r.one
    obtain ⟨a, xs, rfl, hs, ha⟩ := rr.lst_of
    subst h
    have := ha.ints
    subst this
    exact ⟨a, ns, rfl, .of (e2 _ _ hs), k _ G1 H1 (Step.refl e2) (.int _)⟩
theorem e_all {bs : List Bool} (ha : EvD K ta σ G (.lst ds)) (h : ds = bs.map D.bl) : EvD K (tCB (rAll K) (tCons ta tNil)) σ G (.bl (bs.all id)) :=
  e_cb (a_one ha) fun vs G1 H1 Q e1 e2 r k => by
    obtain ⟨v, rfl, rr⟩ := r.one
    obtain ⟨a, xs, rfl, hs, ha⟩ := rr.lst_of
    have z : xs = bs.map V.bl := by
      have q := (ha.flat (by subst h; rw [List.all_map]; exact List.all_eq_true.mpr fun _ _ => rfl)).1
      rw [q, h, List.map_map]
      rfl
    subst z
    exact ⟨a, bs, rfl, .of (e2 _ _ hs), k _ G1 H1 (Step.refl e2) (.bl _)⟩
theorem e_abs (ha : EvD K ta σ G (.int i)) : EvD K (tCB (fun xs H Q => ∃ i, xs = [.int i] ∧ Q (.int (if i < 0 then -i else i)) H) (tCons ta tNil)) σ G (.int (if i < 0 then -i else i)) :=
  e_cb (a_one ha) fun vs G1 H1 Q e1 e2 r k => by
    obtain ⟨v, rfl, rr⟩ := r.one
    exact ⟨i, by rw [rr.int_of], k _ G1 H1 (Step.refl e2) (.int _)⟩
theorem e_max2 (ha : EvD K ta σ G (.int i)) (hb : EvD K tb σ G (.int j)) : EvD K (tCB (fun xs H Q => ∃ i j, xs = [.int i, .int j] ∧ Q (.int (if j > i then j else i)) H) (tCons ta (tCons tb tNil))) σ G (.int (if j > i then j else i)) :=
  e_cb (a_cons ha (a_one hb)) fun vs G1 H1 Q e1 e2 r k => by
    obtain ⟨v, w, rfl, r1, r2⟩ := r.two
    exact ⟨i, j, by rw [r1.int_of, r2.int_of], k _ G1 H1 (Step.refl e2) (.int _)⟩
theorem e_min2 (ha : EvD K ta σ G (.int i)) (hb : EvD K tb σ G (.int j)) : EvD K (tCB (fun xs H Q => ∃ i j, xs = [.int i, .int j] ∧ Q (.int (if j < i then j else i)) H) (tCons ta (tCons tb tNil))) σ G (.int (if j < i then j else i)) :=
  e_cb (a_cons ha (a_one hb)) fun vs G1 H1 Q e1 e2 r k => by
    obtain ⟨v, w, rfl, r1, r2⟩ := r.two
    exact ⟨i, j, by rw [r1.int_of, r2.int_of], k _ G1 H1 (Step.refl e2) (.int _)⟩
theorem e_int1b (ha : EvD K ta σ G (.bl b)) : EvD K (tCB (fun xs H Q => (∃ i, xs = [.int i] ∧ Q (.int i) H) ∨ ∃ k, xs = [.bl k] ∧ Q (.int (if k then 1 else 0)) H) (tCons ta tNil)) σ G (.int (if b then 1 else 0)) :=
  e_cb (a_one ha) fun vs G1 H1 Q e1 e2 r k => by
    obtain ⟨v, rfl, rr⟩ := r.one
    exact .inr ⟨b, by rw [rr.bl_of], k _ G1 H1 (Step.refl e2) (.int _)⟩
/-- tuple(list) -/
theorem e_tuple (ha : EvD K ta σ G (.lst ds)) : EvD K (tCB (fun xs H Q => ∃ p ys, xs = [.ref p] ∧ ((SqL K H p ys ∧ ∀ l, H l = none → Q (.ref l) (upd H l (.tup ys))) ∨ (SqT K H p ys ∧ Q (.ref p) H))) (tCons ta tNil)) σ G (.tup ds) :=
  e_cb (a_one ha) fun vs G1 H1 Q e1 e2 r k => by
    obtain ⟨v, rfl, rr⟩ := r.one
    obtain ⟨a, xs, rfl, hs, ha⟩ := rr.lst_of
    exact ⟨a, xs, rfl, .inl ⟨.of (e2 _ _ hs), fun l hl => k _ _ _ (Step.new e2 hl) (.tup upd_same (ha.ex (Ex.new (Step.back e2 hl))))⟩⟩
/-- list(x) -/
theorem f_list (ha : EvD K ta σ G d) (h : d.isSeq = true) : EvF K (tCB (fun xs H Q => ∃ p ys, xs = [.ref p] ∧ (SqL K H p ys ∨ SqT K H p ys) ∧ ∀ l, H l = none → Q (.ref l) (upd H l (.lst ys))) (tCons ta tNil)) σ G d.items := fun H e Q q =>
  a_one ha H e _ fun vs G1 H1 s1 r => by
    obtain ⟨v, rfl, rr⟩ := r.one
    cases d with
    | tup ds =>
      obtain ⟨a, xs, rfl, hs, ha⟩ := rr.tup_of
      exact ⟨a, xs, rfl, .inr (.of (s1.i _ _ hs)), fun l hl => q l xs G1 _ (s1.trans (Step.own s1.i hl)) (s1.pre hl) (Step.back s1.i hl) upd_same ha⟩
    | lst ds =>
      obtain ⟨a, xs, rfl, hs, ha⟩ := rr.lst_of
      exact ⟨a, xs, rfl, .inl (.of (s1.i _ _ hs)), fun l hl => q l xs G1 _ (s1.trans (Step.own s1.i hl)) (s1.pre hl) (Step.back s1.i hl) upd_same ha⟩
    | _ => cases h
/-- isinstance(x, T) -/
def D.ty : D → String
  | .non => "NoneType"
  | .bl _ => "bool"
  | .int _ => "int"
  | .str _ => "str"
  | .tup _ => "tuple"
  | .lst _ => "list"
  | .tab _ => "dict"
  | .dic _ => "dict"
theorem Rp.ty (r : Rp K H v d) : TyX K H v (.type d.ty) := by
  cases r with
  | non => exact .base .non
  | bl b => exact .base (.bl b)
  | int i => exact .base (.int i)
  | str x => exact .base (.str x)
  | tup h _ => exact .base (.tup h)
  | lst h _ => exact .base (.lst h)
  | tab h => exact .base (.dT h)
  | dic h => exact .base (.dK h)
theorem e_isi {n s : String} (ha : EvD K ta σ G d) (hd : d.ty = s) (h : kitB s n = some b) : EvD K (tCB (rIsi K) (tCons ta (tCons (tC (.ty n)) tNil))) σ G (.bl b) := fun H e Q q =>
  ha H e _ fun v G1 H1 s1 r1 => ⟨v, .ty n, _, _, b, rfl, .ty n, (r1.ex s1.i).ty, kit_ty (by rw [hd]; exact h), q _ G1 H1 s1 (.bl _)⟩

/-! #### calls of defs that leave all as it is -/
/-- f of data ds is r -/
def spP (K : PySem.W.Frag) (R : List D → D → Prop) : Sp := fun vs H Q _ => ∃ G ds r, Ex G H ∧ RpA K G vs ds ∧ R ds r ∧ ∀ v G' H', Step G H G' H' → Rp K G' v r → Q v H'
/-- .., a new list -/
def spF (K : PySem.W.Frag) (R : List D → List D → Prop) : Sp := fun vs H Q _ => ∃ G ds r, Ex G H ∧ RpA K G vs ds ∧ R ds r ∧ ∀ p xs G' H', Step G H G' H' → H p = none → G' p = none → H' p = some (.lst xs) → RpA K G' xs r → Q (.ref p) H'
theorem e_call {R : List D → D → Prop} {E : XK} (h : EvAs K as σ G ds) (hr : R ds d) : EvD K (tCall (spP K R) [] E as) σ G d := fun H e Q q =>
  h H e _ fun vs G1 H1 s1 r1 => ⟨G1, ds, d, s1.i, by rw [List.append_nil]; exact r1, hr, fun v G2 H2 s2 r2 => q v G2 H2 (s1.trans s2) r2⟩
theorem f_call {R : List D → List D → Prop} {E : XK} (h : EvAs K as σ G ds) (hr : R ds es) : EvF K (tCall (spF K R) [] E as) σ G es := fun H e Q q =>
  h H e _ fun vs G1 H1 s1 r1 => ⟨G1, ds, es, s1.i, by rw [List.append_nil]; exact r1, hr, fun p xs G2 H2 s2 h1 h2 h3 r2 => q p xs G2 H2 (s1.trans s2) (s1.pre h1) h2 h3 r2⟩

/-! #### dicts that stand -/
def kD : Key → D
  | .inl i => .int i
  | .inr s => .str s
theorem Rp.key {k : Key} (r : Rp K H v (kD k)) : v = kV k := by
  cases k <;> (cases r; rfl)
theorem RpA.keys : ∀ {ks : List Key} {vs : List V}, RpA K H vs (ks.map kD) → vs = ks.map kV
  | [], _, h => by cases h; rfl
  | k :: ks, _, h => by
    cases h with
    | cons h1 h2 => rw [h1.key, RpA.keys h2]; rfl
def vD : V → D
  | .non => .non
  | .bl b => .bl b
  | .int i => .int i
  | .str s => .str s
  | _ => .non
def scalV : V → Bool
  | .non => true
  | .bl _ => true
  | .int _ => true
  | .str _ => true
  | _ => false
theorem rp_vD (h : scalV v = true) : Rp K H v (vD v) := by
  cases v <;> first | exact .non | exact .bl _ | exact .int _ | exact .str _ | cases h
theorem dget_of {kvs : List (List Key × V)} {ks : List Key} (e : Ex G H) (r1 : Rp K G x (.tab kvs)) (r2 : Rp K G y (.tup (ks.map kD))) : ∃ a, x = .ref a ∧ DGet H a y (valV kvs ks) ∧ IsD H a := by
  obtain ⟨a, rfl, ha⟩ := r1.tab_of
  obtain ⟨b, xs, rfl, hb, hx⟩ := r2.tup_of
  have := hx.keys
  subst this
  exact ⟨a, rfl, DGet.t (e _ _ ha) (e _ _ hb), .inr ⟨kvs, .inl (e _ _ ha)⟩⟩
theorem e_dget {kvs : List (List Key × V)} {ks : List Key} (ha : EvD K ta σ G (.tab kvs)) (hb : EvD K tb σ G d) (hk : d = .tup (ks.map kD)) (h : valV kvs ks = some v) (hv : scalV v = true) : EvD K (tDGet ta tb) σ G (vD v) := fun H e Q q =>
  ha H e _ fun x G1 H1 s1 r1 => (hb.mono s1.g) H1 s1.i _ fun y G2 H2 s2 r2 => by
    subst hk
    obtain ⟨a, rfl, hg, _⟩ := dget_of s2.i (r1.ex s2.g) r2
    rw [h] at hg
    exact ⟨a, v, rfl, hg, q v G2 H2 (s1.trans s2) (rp_vD hv)⟩
theorem e_dget2 {kvs : List (List Key × V)} {ks : List Key} (ha : EvD K ta σ G (.tab kvs)) (hb : EvD K tb σ G d) (hk : d = .tup (ks.map kD)) (hc : EvD K tc σ G d1) (h1 : d1.flat = true) (hv : ∀ v, valV kvs ks = some v → scalV v = true) :
    EvD K (tDGet2 ta tb tc) σ G (vD ((valV kvs ks).getD d1.toV)) := fun H e Q q =>
  ha H e _ fun x G1 H1 s1 r1 => by
    obtain ⟨a, rfl, ha⟩ := r1.tab_of
    refine ⟨a, rfl, .inr ⟨kvs, .inl (s1.i _ _ ha)⟩, (hb.mono s1.g) H1 s1.i _ fun y G2 H2 s2 r2 => (hc.mono (s1.g.trans s2.g)) H2 s2.i _ fun z G3 H3 s3 r3 => ?_⟩
    subst hk
    obtain ⟨a', ea, hg, _⟩ := dget_of s3.i (r1.ex (s2.g.trans s3.g)) (r2.ex s3.g)
    cases ea
    refine ⟨_, hg, q _ G3 H3 ((s1.trans s2).trans s3) ?_⟩
    rw [(r3.flat h1).1]
    apply rp_vD
    cases w : valV kvs ks with
    | some v => exact hv v w
    | none => cases d1 <;> first | rfl | cases h1
theorem e_din {kvs : List (List Key × V)} {ks : List Key} (hb : EvD K tb σ G d) (ha : EvD K ta σ G (.tab kvs)) (hk : d = .tup (ks.map kD)) : EvD K (tDIn tb ta) σ G (.bl (valV kvs ks).isSome) := fun H e Q q =>
  hb H e _ fun y G1 H1 s1 r1 => (ha.mono s1.g) H1 s1.i _ fun x G2 H2 s2 r2 => by
    subst hk
    obtain ⟨a, rfl, hg, _⟩ := dget_of s2.i r2 (r1.ex s2.g)
    exact ⟨a, _, rfl, hg, q _ G2 H2 (s1.trans s2) (.bl _)⟩
theorem e_dnin {kvs : List (List Key × V)} {ks : List Key} (hb : EvD K tb σ G d) (ha : EvD K ta σ G (.tab kvs)) (hk : d = .tup (ks.map kD)) : EvD K (tDNotIn tb ta) σ G (.bl (!(valV kvs ks).isSome)) := fun H e Q q =>
  hb H e _ fun y G1 H1 s1 r1 => (ha.mono s1.g) H1 s1.i _ fun x G2 H2 s2 r2 => by
    subst hk
    obtain ⟨a, rfl, hg, _⟩ := dget_of s2.i r2 (r1.ex s2.g)
    exact ⟨a, _, rfl, hg, q _ G2 H2 (s1.trans s2) (.bl _)⟩
end

/-! ### walks -/
structure WalkD [Tbs] (K : PySem.W.Frag) (J : It) (n : Nat) (G : Hp) (Y : Nat → D) : Prop where
  goes : ∀ i H, i < n → Ex G H → J.go i H
  stops : ∀ H, Ex G H → J.stop n H
  yields : ∀ i G1 H x H', i < n → Ex G G1 → Ex G1 H → J.yld i H x H' → ∃ G2, Step G1 H G2 H' ∧ Rp K G2 x (Y i)
def EvI [Tbs] (K : PySem.W.Frag) (wi : TI) (σ : L2.St) (G : Hp) (n : Nat) (Y : Nat → D) : Prop := ∀ H, Ex G H → ∀ R : It → Hp → Prop, (∀ J G' H', Step G H G' H' → WalkD K J n G' Y → R J H') → wi σ H R
def nth (ds : List D) (i : Nat) : D := ds.getD i .non
theorem nth_of {ds : List D} {i : Nat} {d : D} (h : ds[i]? = some d) : nth ds i = d := by
  unfold nth
  rw [List.getD_eq_getElem?_getD, h]
  rfl
theorem nth_map {α : Type} {xs : List α} {f : α → D} {i : Nat} {x : α} (h : xs[i]? = some x) : nth (xs.map f) i = f x := nth_of (by rw [List.getElem?_map, h]; rfl)
def setAll (σ : L2.St) : List Nat → List V → L2.St
  | j :: js, v :: vs => setAll (σ.set j (some v)) js vs
  | _, _ => σ
def EvG [Tbs] (K : PySem.W.Frag) (g : TG) (d : D) (js : List Nat) (es : List D) : Prop := ∀ (G H : Hp) v σ Q, Ex G H → Rp K G v d → (∀ vs, RpA K G vs es → Q (setAll σ js vs) H) → g v σ H Q
def EvGs [Tbs] (K : PySem.W.Frag) (g : TGs) (ds : List D) (js : List Nat) (es : List D) : Prop := ∀ (G H : Hp) xs σ Q, Ex G H → RpA K G xs ds → (∀ vs, RpA K G vs es → Q (setAll σ js vs) H) → g xs σ H Q
def pick (n : Nat) (b : Nat → Bool) (f : Nat → D) : List D := ((List.range n).filter b).map f
section
variable [Tbs] {K : PySem.W.Frag} {σ : L2.St} {G G0 H0 G1 H : Hp} {ta tb tc te tx : TE} {t u : TT} {x y z v : V} {d d1 d2 d3 : D} {ds es : List D} {as bs : TA} {i j k m : Int} {a b c : Bool} {n : Nat} {Y : Nat → D} {wi : TI} {g : TG} {js : List Nat}
theorem walkD_list {p : Addr} {xs : List V} (h : G p = some (.lst xs)) (r : RpA K G xs ds) : WalkD K (Itl K p) ds.length G (nth ds) where
  goes := fun i H hi e => ⟨xs, xs[i]'(by rw [r.len]; exact hi), .of (e _ _ h), by simp [r.len, hi]⟩
  stops := fun H e => ⟨xs, .of (e _ _ h), by rw [r.len]; exact Nat.le_refl _⟩
  yields := fun i G1 H x H' hi e1 e2 y => by
    obtain ⟨rfl, y⟩ := y
    have hx := y xs (.of (e2 _ _ (e1 _ _ h)))
    obtain ⟨d, hd, rd⟩ := r.get hx
    exact ⟨G1, Step.refl e2, by rw [nth_of hd]; exact rd.ex e1⟩
theorem walkD_tup {p : Addr} {xs : List V} (h : G p = some (.tup xs)) (r : RpA K G xs ds) : WalkD K (Itt K p) ds.length G (nth ds) where
  goes := fun i H hi e => ⟨xs, xs[i]'(by rw [r.len]; exact hi), .of (e _ _ h), by simp [r.len, hi]⟩
  stops := fun H e => ⟨xs, .of (e _ _ h), by rw [r.len]; exact Nat.le_refl _⟩
  yields := fun i G1 H x H' hi e1 e2 y => by
    obtain ⟨rfl, y⟩ := y
    have hx := y xs (.of (e2 _ _ (e1 _ _ h)))
    obtain ⟨d, hd, rd⟩ := r.get hx
    exact ⟨G1, Step.refl e2, by rw [nth_of hd]; exact rd.ex e1⟩
theorem walkD_range {lo : Int} : WalkD K (Itr lo n) n G (fun i => .int (lo + i)) where
  goes := fun i H hi e => hi
  stops := fun H e => Nat.le_refl _
  yields := fun i G1 H x H' hi e1 e2 y => by
    obtain ⟨rfl, rfl⟩ := y
    exact ⟨G1, Step.refl e2, .int _⟩
theorem walkD_enum {p : Addr} {xs : List V} (h : G p = some (.lst xs)) (r : RpA K G xs ds) : WalkD K (Ite K p) ds.length G (fun i => .tup [.int i, nth ds i]) where
  goes := fun i H hi e => ⟨xs, xs[i]'(by rw [r.len]; exact hi), .of (e _ _ h), by simp [r.len, hi]⟩
  stops := fun H e => ⟨xs, .of (e _ _ h), by rw [r.len]; exact Nat.le_refl _⟩
  yields := fun i G1 H x H' hi e1 e2 y => by
    obtain ⟨T, x, rfl, hT, rfl, y⟩ := y
    have hx := y xs (.of (e2 _ _ (e1 _ _ h)))
    obtain ⟨d, hd, rd⟩ := r.get hx
    exact ⟨_, Step.new e2 hT, .tup upd_same (.cons (.int _) (.cons (by rw [nth_of hd]; exact (rd.ex e1).ex (Ex.new (Step.back e2 hT))) .nil))⟩
theorem i_list (h : EvD K te σ G (.lst ds)) : EvI K (iList K te) σ G ds.length (nth ds) := fun H e R q =>
  h H e _ fun v G1 H1 s r => by
    obtain ⟨p, xs, rfl, hs, ha⟩ := r.lst_of
    exact ⟨p, rfl, ⟨xs, .of (s.i _ _ hs)⟩, q _ G1 H1 s (walkD_list hs ha)⟩
theorem i_tup (h : EvD K te σ G (.tup ds)) : EvI K (iTup K te) σ G ds.length (nth ds) := fun H e R q =>
  h H e _ fun v G1 H1 s r => by
    obtain ⟨p, xs, rfl, hs, ha⟩ := r.tup_of
    exact ⟨p, rfl, ⟨xs, .of (s.i _ _ hs)⟩, q _ G1 H1 s (walkD_tup hs ha)⟩
theorem i_enum (h : EvD K te σ G (.lst ds)) : EvI K (iEnum K (tCons te tNil)) σ G ds.length (fun i => .tup [.int i, nth ds i]) := fun H e R q =>
  h H e _ fun v G1 H1 s r => by
    obtain ⟨p, xs, rfl, hs, ha⟩ := r.lst_of
    exact ⟨p, xs, rfl, .of (s.i _ _ hs), q _ G1 H1 s (walkD_enum hs ha)⟩
theorem i_rng1 (h : EvD K te σ G (.int i)) (hb : -1000000 ≤ i ∧ i ≤ 1000000) : EvI K (iRng1 (tCons te tNil)) σ G i.toNat (fun k => .int k) := fun H e R q =>
  h H e _ fun v G1 H1 s r => ⟨i, by rw [r.int_of], by omega, by omega, q _ G1 H1 s (by
    have z : (fun k : Nat => D.int (k : Int)) = fun k : Nat => D.int ((0 : Int) + (k : Int)) := by funext k; rw [Int.zero_add]
    rw [z]
    exact walkD_range)⟩
theorem i_rng2 (h1 : EvD K ta σ G (.int i)) (h2 : EvD K tb σ G (.int j)) (hb : (-1000000 ≤ i ∧ i ≤ 1000000) ∧ -1000000 ≤ j ∧ j ≤ 1000000) : EvI K (iRng2 (tCons ta (tCons tb tNil))) σ G (j - i).toNat (fun k => .int (i + k)) := fun H e R q =>
  h1 H e _ fun v G1 H1 s1 r1 => (h2.mono s1.g) H1 s1.i _ fun w G2 H2 s2 r2 => ⟨i, j, by rw [r1.int_of, r2.int_of], ⟨by omega, by omega, by omega, by omega⟩, q _ G2 H2 (s1.trans s2) walkD_range⟩
theorem g_name {j : Nat} : EvG K (gName j) d [j] [d] := fun G H v σ Q e r q => q [v] (.cons r .nil)
theorem g_nil : EvGs K gNil [] [] [] := fun G H xs σ Q e r q => by
  cases r
  exact ⟨rfl, q [] .nil⟩
theorem setAll_app (σ : L2.St) : ∀ (js ks : List Nat) (us ws : List V), us.length = js.length → setAll σ (js ++ ks) (us ++ ws) = setAll (setAll σ js us) ks ws
  | [], ks, us, ws, h => by
    have z : us = [] := List.length_eq_zero_iff.mp h
    subst z
    rfl
  | j :: js, ks, [], ws, h => by cases h
  | j :: js, ks, u :: us, ws, h => setAll_app (σ.set j (some u)) js ks us ws (Nat.succ.inj h)
theorem g_cons {gs : TGs} {js1 js2 : List Nat} {es1 es2 : List D} (h1 : EvG K g d js1 es1) (h2 : EvGs K gs ds js2 es2) (hl : es1.length = js1.length) : EvGs K (gCons g gs) (d :: ds) (js1 ++ js2) (es1 ++ es2) := fun G H xs σ Q e r q => by
  cases r with
  | cons r1 r2 =>
    refine ⟨_, _, rfl, h1 G H _ σ _ e r1 fun us ru => h2 G H _ _ _ e r2 fun ws rw' => ?_⟩
    rw [← setAll_app σ js1 js2 us ws (by rw [ru.len, hl])]
    exact q _ (ru.app rw')
theorem g_tup {gs : TGs} (h : EvGs K gs ds js es) (hl : ds.length = n) : EvG K (gTup K n gs) (.tup ds) js es := fun G H v σ Q e r q => by
  obtain ⟨a, xs, rfl, hs, ha⟩ := r.tup_of
  exact ⟨a, xs, rfl, .of (e _ _ hs), by rw [ha.len, hl], h G H xs σ Q e ha q⟩
theorem g_two {j1 j2 : Nat} : EvG K (gTup K 2 (gCons (gName j1) (gCons (gName j2) gNil))) (.tup [d1, d2]) [j1, j2] [d1, d2] := g_tup (g_cons g_name (g_cons g_name g_nil rfl) rfl) rfl
theorem g_three {j1 j2 j3 : Nat} : EvG K (gTup K 3 (gCons (gName j1) (gCons (gName j2) (gCons (gName j3) gNil)))) (.tup [d1, d2, d3]) [j1, j2, j3] [d1, d2, d3] := g_tup (g_cons g_name (g_cons g_name (g_cons g_name g_nil rfl) rfl) rfl) rfl

/-! ### comprehensions -/
theorem pick_zero {b : Nat → Bool} {f : Nat → D} : pick 0 b f = [] := rfl
theorem pick_yes {b : Nat → Bool} {f : Nat → D} (h : b n = true) : pick (n + 1) b f = pick n b f ++ [f n] := by
  unfold pick
  rw [List.range_succ, List.filter_append, List.map_append, List.filter_cons, if_pos h] <;> rfl
theorem pick_no {b : Nat → Bool} {f : Nat → D} (h : b n = false) : pick (n + 1) b f = pick n b f := by
  unfold pick
  rw [List.range_succ, List.filter_append, List.map_append, List.filter_cons, if_neg (by rw [h]; decide)]
  show _ ++ [] = _
  rw [List.append_nil]
theorem pick_len (b : Nat → Bool) (f : Nat → D) : (pick n b f).length ≤ n := by
  unfold pick
  rw [List.length_map]
  have h := List.length_filter_le b (List.range n)
  rw [List.length_range] at h
  exact h
theorem f_lc {tt : TT} {vs : List Nat} (E : Nat → List D) (b : Nat → Bool) (f : Nat → D) (hi : EvI K wi σ G n Y) (hg : ∀ i, i < n → EvG K g (Y i) js (E i)) (hz : n ≤ 1000000)
    (hl : ∀ i, i < n → (E i).length = js.length)
    (hw : ∀ us : List V, us.length = js.length → wipe (setAll (wipe σ vs) js us) vs = wipe σ vs)
    (ht : ∀ i, i < n → ∀ G1, Ex G G1 → ∀ us, RpA K G1 us (E i) → EvB tt (setAll (wipe σ vs) js us) G1 (b i))
    (he : ∀ i, i < n → b i = true → ∀ G1, Ex G G1 → ∀ us, RpA K G1 us (E i) → EvD K te (setAll (wipe σ vs) js us) G1 (f i)) : EvF K (tLc wi g tt te vs) σ G (pick n b f) := fun H e Q q =>
  hi H e _ fun J G1 H1 s1 wk Dl hD => by
    refine ⟨fun i m H' => m = n - i ∧ i ≤ n ∧ ∃ G' xs, Step G1 H1 G' H' ∧ G' Dl = none ∧ H' Dl = some (.lst xs) ∧ RpA K G' xs (pick i b f), ⟨n, by omega, Nat.zero_le _, G1, [], Step.own s1.i hD, Step.back s1.i hD, upd_same, .nil⟩, ?_⟩
    rintro i m H' ⟨rfl, hi', G', xs, s2, hD1, hD2, r2⟩
    by_cases hlt : i < n
    · refine .inr ⟨wk.goes i H' hlt (s2.g.trans s2.i), fun H2 => i + 1 ≤ n ∧ ∃ G' xs, Step G1 H1 G' H2 ∧ G' Dl = none ∧ H2 Dl = some (.lst xs) ∧ RpA K G' xs (pick (i + 1) b f), fun H2 p => ⟨n - (i + 1), by omega, rfl, p⟩, fun x H2 y => ?_⟩
      obtain ⟨G2, s3, r3⟩ := wk.yields i G' H' x H2 hlt s2.g s2.i y
      refine hg i hlt G2 H2 x _ _ s3.i r3 fun us ru => ⟨hw us (by rw [ru.len]; exact hl i hlt), ?_⟩
      obtain ⟨g3, k3⟩ := s3.keep hD1 hD2
      have s23 := s2.trans s3
      refine (ht i hlt G2 (s1.g.trans s23.g) us ru) H2 s3.i _ fun G3 H3 s4 => ?_
      obtain ⟨g4, k4⟩ := s4.keep g3 k3
      cases hb : b i with
      | true =>
        show te (setAll (wipe σ vs) js us) H3 _
        refine ((he i hlt hb G2 (s1.g.trans s23.g) us ru).mono s4.g) H3 s4.i _ fun v G4 H4 s5 r5 => ?_
        obtain ⟨g5, k5⟩ := s5.keep g4 k4
        refine ⟨xs, k5, ?_, hlt, G4, xs ++ [v], ((s23.trans s4).trans s5).mut hD g5, g5, upd_same, ?_⟩
        · rw [r2.len]
          have := pick_len (n := i) b f
          rw [sizeLine_eq]
          omega
        · rw [pick_yes hb]
          exact (r2.ex ((s3.g.trans s4.g).trans s5.g)).snoc r5
      | false =>
        exact ⟨hlt, G3, xs, s23.trans s4, g4, k4, by rw [pick_no hb]; exact r2.ex (s3.g.trans s4.g)⟩
    · have z : i = n := by omega
      subst z
      exact .inl ⟨wk.stops H' (s2.g.trans s2.i), q Dl xs G' H' (s1.trans s2) (s1.pre hD) hD1 hD2 r2⟩
theorem b_yes : EvB tYes σ G true := fun H e Q q => q G H (Step.refl e)

/-! ### statements -/
variable {Dn : Ends} {tu tw tz : TS}
theorem s_asg {i : Nat} (e : Ex G H) (h : EvD K te σ G d) (k : ∀ v G1 H1, Step G H G1 H1 → Rp K G1 v d → Dn.nx (σ.set i (some v)) H1) : tAsg te (gName i) Dn σ H := h H e _ fun v G1 H1 s r => k v G1 H1 s r
theorem q_asg {i : Nat} (e : Ex G H) (h : EvD K te σ G d) (k : ∀ v G1 H1, Step G H G1 H1 → Rp K G1 v d → tz Dn (σ.set i (some v)) H1) : tSeq (tAsg te (gName i)) tz Dn σ H := h H e _ fun v G1 H1 s r => k v G1 H1 s r
theorem q_asgF {i : Nat} (e : Ex G H) (h : EvF K te σ G ds) (k : ∀ p xs G1 H1, Step G H G1 H1 → H p = none → G1 p = none → H1 p = some (.lst xs) → RpA K G1 xs ds → tz Dn (σ.set i (some (.ref p))) H1) : tSeq (tAsg te (gName i)) tz Dn σ H := h H e _ fun p xs G1 H1 s h1 h2 h3 r => k p xs G1 H1 s h1 h2 h3 r
theorem q_asgT (e : Ex G H) (h : EvD K te σ G d) (hg : EvG K g d js es) (k : ∀ vs G1 H1, Step G H G1 H1 → RpA K G1 vs es → tz Dn (setAll σ js vs) H1) : tSeq (tAsg te g) tz Dn σ H := h H e _ fun v G1 H1 s r => hg G1 H1 v σ _ s.i r fun vs rv => k vs G1 H1 s rv
theorem s_asgT (e : Ex G H) (h : EvD K te σ G d) (hg : EvG K g d js es) (k : ∀ vs G1 H1, Step G H G1 H1 → RpA K G1 vs es → Dn.nx (setAll σ js vs) H1) : tAsg te g Dn σ H := h H e _ fun v G1 H1 s r => hg G1 H1 v σ _ s.i r fun vs rv => k vs G1 H1 s rv
theorem s_ret (e : Ex G H) (h : EvD K te σ G d) (k : ∀ v G1 H1, Step G H G1 H1 → Rp K G1 v d → Dn.rt v H1) : tRet te Dn σ H := h H e _ fun v G1 H1 s r => k v G1 H1 s r
theorem s_retF (e : Ex G H) (h : EvF K te σ G ds) (k : ∀ p xs G1 H1, Step G H G1 H1 → H p = none → G1 p = none → H1 p = some (.lst xs) → RpA K G1 xs ds → Dn.rt (.ref p) H1) : tRet te Dn σ H := h H e _ fun p xs G1 H1 s h1 h2 h3 r => k p xs G1 H1 s h1 h2 h3 r
theorem s_if (e : Ex G H) (h : EvB t σ G b) (h1 : b = true → ∀ G1 H1, Step G H G1 H1 → tu Dn σ H1) (h2 : b = false → ∀ G1 H1, Step G H G1 H1 → tw Dn σ H1) : tIfS t tu tw Dn σ H := h H e _ fun G1 H1 s => by
  cases b with
  | true => exact h1 rfl G1 H1 s
  | false => exact h2 rfl G1 H1 s
theorem q_if (e : Ex G H) (h : EvB t σ G b) (h1 : b = true → ∀ G1 H1, Step G H G1 H1 → tu { Dn with nx := tz Dn } σ H1) (h2 : b = false → ∀ G1 H1, Step G H G1 H1 → tw { Dn with nx := tz Dn } σ H1) : tSeq (tIfS t tu tw) tz Dn σ H := s_if (Dn := { Dn with nx := tz Dn }) e h h1 h2
/-- an if whose way is not taken -/
theorem q_no (e : Ex G H) (h : EvB t σ G false) (k : ∀ G1 H1, Step G H G1 H1 → tz Dn σ H1) : tSeq (tIfS t tu tNext) tz Dn σ H := q_if e h (fun z => nomatch z) (fun _ => k)
theorem q_drop (e : Ex G H) (h : EvD K te σ G d) (k : ∀ G1 H1, Step G H G1 H1 → tz Dn σ H1) : tSeq (tDrop te) tz Dn σ H := h H e _ fun v G1 H1 s r => k G1 H1 s
theorem s_drop (e : Ex G H) (h : EvD K te σ G d) (k : ∀ G1 H1, Step G H G1 H1 → Dn.nx σ H1) : tDrop te Dn σ H := h H e _ fun v G1 H1 s r => k G1 H1 s
/-- p.append(e), p an own list in slot i -/
theorem q_app {i : Nat} {p : Addr} {xs : List V} (e : Ex G H) (hp : G p = none) (hx : H p = some (.lst xs)) (hi : σ[i]? = some (some (.ref p))) (h : EvD K te σ G d) (hz : xs.length < 100000)
    (k : ∀ v G1 H1, Step G H G1 H1 → G1 p = none → Rp K G1 v d → tz Dn σ (upd H1 p (.lst (xs ++ [v])))) : tSeq (tDrop (tBM K "list" rAppend (tVar i) (tCons te tNil))) tz Dn σ H :=
  ⟨_, hi, Or.inl ⟨rfl, xs, .of hx⟩, h H e _ fun v G1 H1 s r => ⟨p, xs, v, rfl, rfl, s.h p _ hx, sz_lt hz, k v G1 H1 s (s.keep hp hx).1 r⟩⟩
theorem s_app {i : Nat} {p : Addr} {xs : List V} (e : Ex G H) (hp : G p = none) (hx : H p = some (.lst xs)) (hi : σ[i]? = some (some (.ref p))) (h : EvD K te σ G d) (hz : xs.length < 100000)
    (k : ∀ v G1 H1, Step G H G1 H1 → G1 p = none → Rp K G1 v d → Dn.nx σ (upd H1 p (.lst (xs ++ [v])))) : tDrop (tBM K "list" rAppend (tVar i) (tCons te tNil)) Dn σ H :=
  ⟨_, hi, Or.inl ⟨rfl, xs, .of hx⟩, h H e _ fun v G1 H1 s r => ⟨p, xs, v, rfl, rfl, s.h p _ hx, sz_lt hz, k v G1 H1 s (s.keep hp hx).1 r⟩⟩
/-- p.extend(e) -/
theorem s_ext {i : Nat} {p : Addr} {xs : List V} (e : Ex G H) (hp : G p = none) (hx : H p = some (.lst xs)) (hi : σ[i]? = some (some (.ref p))) (h : EvD K te σ G (.lst ds)) (hz : xs.length + ds.length ≤ 100000)
    (k : ∀ ys G1 H1, Step G H G1 H1 → G1 p = none → RpA K G1 ys ds → Dn.nx σ (upd H1 p (.lst (xs ++ ys)))) : tDrop (tBM K "list" rExtend (tVar i) (tCons te tNil)) Dn σ H :=
  ⟨_, hi, Or.inl ⟨rfl, xs, .of hx⟩, h H e _ fun v G1 H1 s r => by
    obtain ⟨q, ys, rfl, hs, ha⟩ := r.lst_of
    exact ⟨p, q, xs, ys, rfl, rfl, s.h p _ hx, s.i _ _ hs, by rw [ha.len]; exact sz_of hz, k ys G1 H1 s (s.keep hp hx).1 ha⟩⟩
theorem q_ext {i : Nat} {p : Addr} {xs : List V} (e : Ex G H) (hp : G p = none) (hx : H p = some (.lst xs)) (hi : σ[i]? = some (some (.ref p))) (h : EvD K te σ G (.lst ds)) (hz : xs.length + ds.length ≤ 100000)
    (k : ∀ ys G1 H1, Step G H G1 H1 → G1 p = none → RpA K G1 ys ds → tz Dn σ (upd H1 p (.lst (xs ++ ys)))) : tSeq (tDrop (tBM K "list" rExtend (tVar i) (tCons te tNil))) tz Dn σ H := s_ext (Dn := { Dn with nx := tz Dn }) e hp hx hi h hz k
/-- a for: Pv of the turn, the slots, the part that stays, the heap -/
theorem s_for {E : Nat → List D} (S : Step G0 H0 G H) (hi : EvI K wi σ G n Y) (hg : ∀ i, i < n → EvG K g (Y i) js (E i)) (Pv : Nat → L2.St → Hp → Hp → Prop)
    (h0 : ∀ G1 H1, Step G H G1 H1 → Pv 0 σ G1 H1)
    (hs : ∀ Gw, Ex G Gw → ∀ i, i < n → ∀ σ' G' H', Step G0 H0 G' H' → Ex Gw G' → Pv i σ' G' H' → ∀ G2 H2 us, Step G' H' G2 H2 → RpA K G2 us (E i) →
      tu { Dn with nx := fun σ2 H3 => ∃ G3, Step G0 H0 G3 H3 ∧ Ex Gw G3 ∧ Pv (i + 1) σ2 G3 H3, ct := fun σ2 H3 => ∃ G3, Step G0 H0 G3 H3 ∧ Ex Gw G3 ∧ Pv (i + 1) σ2 G3 H3, bk := Dn.nx } (setAll σ' js us) H2)
    (hd : ∀ σ' G' H', Step G0 H0 G' H' → Ex G G' → Pv n σ' G' H' → Dn.nx σ' H') : tFor wi g tu Dn σ H :=
  hi H S.i _ fun J G1 H1 s1 wk => by
    refine ⟨fun i m σ' H' => m = n - i ∧ i ≤ n ∧ ∃ G', Step G0 H0 G' H' ∧ Ex G1 G' ∧ Pv i σ' G' H', ⟨n, by omega, Nat.zero_le _, G1, S.trans s1, Ex.refl _, h0 G1 H1 s1⟩, ?_⟩
    rintro i m σ' H' ⟨rfl, hi', G', s2, e2, p⟩
    by_cases hlt : i < n
    · refine .inr ⟨wk.goes i H' hlt (e2.trans s2.i), fun σ2 H3 => ∃ G3, Step G0 H0 G3 H3 ∧ Ex G1 G3 ∧ Pv (i + 1) σ2 G3 H3, fun σ2 H3 q => ⟨n - (i + 1), by omega, rfl, hlt, q⟩, fun x H2 y => ?_⟩
      obtain ⟨G2, s3, r3⟩ := wk.yields i G' H' x H2 hlt e2 s2.i y
      exact hg i hlt G2 H2 x _ _ s3.i r3 fun us ru => hs G1 s1.g i hlt σ' G' H' s2 e2 p G2 H2 us s3 ru
    · have z : i = n := by omega
      subst z
      exact .inl ⟨wk.stops H' (e2.trans s2.i), hd σ' G' H' s2 (s1.g.trans e2) p⟩
theorem q_for {E : Nat → List D} (S : Step G0 H0 G H) (hi : EvI K wi σ G n Y) (hg : ∀ i, i < n → EvG K g (Y i) js (E i)) (Pv : Nat → L2.St → Hp → Hp → Prop)
    (h0 : ∀ G1 H1, Step G H G1 H1 → Pv 0 σ G1 H1)
    (hs : ∀ Gw, Ex G Gw → ∀ i, i < n → ∀ σ' G' H', Step G0 H0 G' H' → Ex Gw G' → Pv i σ' G' H' → ∀ G2 H2 us, Step G' H' G2 H2 → RpA K G2 us (E i) →
      tu { Dn with nx := fun σ2 H3 => ∃ G3, Step G0 H0 G3 H3 ∧ Ex Gw G3 ∧ Pv (i + 1) σ2 G3 H3, ct := fun σ2 H3 => ∃ G3, Step G0 H0 G3 H3 ∧ Ex Gw G3 ∧ Pv (i + 1) σ2 G3 H3, bk := tz Dn } (setAll σ' js us) H2)
    (hd : ∀ σ' G' H', Step G0 H0 G' H' → Ex G G' → Pv n σ' G' H' → tz Dn σ' H') : tSeq (tFor wi g tu) tz Dn σ H := s_for (Dn := { Dn with nx := tz Dn }) S hi hg Pv h0 hs hd
end
end J

/-! New rules over the hand layer: enumerate(tuple). -/
namespace PySem
open Sem (wp)
open AutoSeq1 (wpAny_loadPart')
theorem j_enum_new1 {v : Value} {o : Obj} {H : Heap → Prop} (B : Begins v o H) :
    Meets (Builtin.«enumerate.__new__» ⟨[.type "enumerate", v], []⟩) (fun _ R s => H s.heap ∧
      R (.ok (.ret (.ref (s.heap.push o).objs.size))) { s with heap := (s.heap.push o).push { cls := .type "enumerate", data := .fields #[.none, .bool false, .ref s.heap.objs.size, rawInt 0, .none, .none] } }) :=
  .of_wp fun prog w A R s h => by
    obtain ⟨hp, g, d, tk, os⟩ := s; obtain ⟨h1, h⟩ := h
    have hsub := sub_enumerate
    have q1 : ∀ {A' : Around} {E : Value → Shared → Prop} {Q : Value → Shared → Prop}, Q (.ref hp.objs.size) ⟨hp.push o, g, d, tk, os⟩ → wpAny (model prog w) A' (pyIter v) Q E ⟨hp, g, d, tk, os⟩ :=
      fun q => B.iter prog w _ _ ⟨hp, g, d, tk, os⟩ _ h1 q
    wp_walk using q1
    refine wpAny_stack_any fun st => wpAny_pure ?_
    split
    · rename_i c _ _ _ _ _
      cases (c == Value.type "enumerate")
      · wp_walk using q1
        exact ⟨_, rfl, h⟩
      · wp_walk using q1
        exact ⟨_, rfl, h⟩
    · wp_walk using q1
      exact ⟨_, rfl, h⟩
theorem j_enum_begins {prog : Program} {w : World} {A : Around} {E : Value → Shared → Prop} {s : Shared} {v : Value} {o : Obj} {H : Heap → Prop} {Q : Value → Shared → Prop} (B : Begins v o H) (h1 : H s.heap)
    (h : ∀ h', IsEnum h' (s.heap.objs.size + 1) s.heap.objs.size 0 .none → h'.get? s.heap.objs.size = some o → h'.objs.size = s.heap.objs.size + 2 →
      (∀ b o, s.heap.get? b = some o → h'.get? b = some o) → Q (.ref (s.heap.objs.size + 1)) { s with heap := h' }) :
    wpAny (model prog w) A (call (.type "enumerate") [v]) Q E s := by
  refine callType_new F.called_enumerate (by decide) (F.typeCall_enumerate_1 _) (F.newCall_enumerate_1 _) (fun obj => F.args_object_init_2 obj _) F.entry_enumerate_new
    (j_enum_new1 B) ⟨h1, ?_⟩
  have hz : (s.heap.push o).objs.size = s.heap.objs.size + 1 := Heap.size_push ..
  show _ ∧ _
  rw [hz]
  have he : IsEnum ((s.heap.push o).push { cls := .type "enumerate", data := .fields #[.none, .bool false, .ref s.heap.objs.size, rawInt 0, .none, .none] }) (s.heap.objs.size + 1) s.heap.objs.size 0 .none := by
    have := Heap.get?_push_size (s.heap.push o) (o := { cls := .type "enumerate", data := .fields #[.none, .bool false, .ref s.heap.objs.size, rawInt 0, .none, .none] }) rfl
    rw [hz] at this; exact this
  refine ⟨⟨_, he, rfl⟩, h _ he (Heap.get?_push_of_some _ (Heap.get?_push_size _ B.free)) (by rw [Heap.size_push, hz]) fun b o x => Heap.get?_push_of_some _ (Heap.get?_push_of_some _ x)⟩
end PySem

namespace J
open PySem L2 PyProof.Rows
/-- enumerate(tuple): the tuple at a, each item in a new pair -/
def Iet (K : PySem.W.Frag) (a : Addr) : It :=
  ⟨fun i H => ∃ (xs : List V) (x : V), SqT K H a xs ∧ xs[i]? = some x, fun i H v H' => ∃ T x, v = .ref T ∧ H T = none ∧ H' = upd H T (.tup [.int (i : Nat), x]) ∧ ∀ xs, SqT K H a xs → xs[i]? = some x, fun i H => ∃ xs : List V, SqT K H a xs ∧ xs.length ≤ i⟩
theorem turn_enumT {P : Program} {w : World} {K : PySem.W.Frag} {elts : List Expr} {kk : Nat} {tpos : Pos} (a e it : Addr) (hai : a ≠ it) :
    Turn P w K (.Tuple elts kk tpos) (Iet K a) [e, it] e (fun i h => (∃ old, IsEnum h e it ((i : Nat) : Int) old) ∧ h.IsTupleIter it a i ∧ e ≠ it ∧ e ≠ a) where
  mem := by simp
  obj := fun i h st b hb => by
    obtain ⟨⟨old, he⟩, ⟨o, ho, hc, hd⟩, _⟩ := st
    have e' : b = e ∨ b = it := by simpa using hb
    rcases e' with z | z
    · rw [z]; exact ⟨_, he, fun v q => nomatch q⟩
    · rw [z]; exact ⟨o, ho, fun v q => by rw [hd] at q; cases q⟩
  keep := fun i h h' st k => let ⟨⟨old, he⟩, hi, hne⟩ := st; ⟨⟨old, k e (by simp) _ he⟩, hi.at fun o q => k it (by simp) o q, hne⟩
  item := by
    intro X hP hw hK hc i pins s σ H E I hf st hg
    subst hP hw hK
    obtain ⟨⟨old, he⟩, hit, hne, hea⟩ := st
    obtain ⟨xs, x, hq, hx⟩ := hg
    obtain ⟨its, rv, p, hz⟩ := I.tuple hq
    obtain ⟨u, hu, ru⟩ := rv.get hx
    have hel : e < s.heap.objs.size := Heap.lt_size he
    have hil : it < s.heap.objs.size := by obtain ⟨_, q, _⟩ := hit; exact Heap.lt_size q
    have hlt : i < its.toArray.size := by
      have := (List.getElem?_eq_some_iff.mp hu).1
      simpa using this
    refine wpAny_pyNext_enum_itemD (Draws.tuple (A := X.A.in1) (show X.A.in1.handled = none from I.ok.hd hc) it a hai its.toArray) he ⟨hit, p⟩ hlt hne (by simp [hne, hea]) fun x' h' tk hP' ho hst' hT hsz hk => ?_
    have hxu : x' = u := by
      have q : its.toArray[i]? = some u := by simpa using hu
      have q2 : its.toArray[i]? = some x' := hP'
      rw [q] at q2
      exact (Option.some.inj q2).symm
    subst hxu
    refine ⟨_, rfl, wpAny_letOwnedTupleGo_enum (s := { s with heap := h', toks := tk + 1 }) ho fun h'' he' sb => ?_⟩
    have hT2 : h''.get? s.heap.objs.size = some { cls := .type "tuple", data := .seq #[.int i tk, x'] } := (sb.2 _ (Nat.ne_of_gt hel)).trans hT
    have new : ObjOk X.prog X.w (upd H s.heap.objs.size (.tup [.int (i : Nat), x])) h'' s.heap.objs.size (.tup [.int (i : Nat), x]) :=
      ⟨by show 2 ≤ sizeLine; decide, [.int i tk, x'], .cons ⟨_, rfl⟩ (.cons ru .nil), ⟨_, hT2, rfl, _, rfl⟩⟩
    have I1 : Inv X pins σ (upd H s.heap.objs.size (.tup [.int (i : Nat), x])) { s with heap := h'', toks := tk + 1 } :=
      I.turnedNew (ch := [e, it]) (fun b ob hb q => (sb.2 b (fun z => hb (by simp [z]))).trans (hk b ob (fun z => hb (by simp [z])) (fun z => hb (by simp [z])) q)) hf (Nat.le_refl _) new
    refine ⟨.ref s.heap.objs.size, _, I1, rfl, ⟨_, x, rfl, I.hok.fresh (Nat.le_refl _), rfl, fun ys hy => by rw [I.tuple_inj hy hq]; exact hx⟩, ⟨⟨x', ?_⟩, hst'.1.at fun o q => (sb.2 it (Ne.symm hne)).trans q, hne, hea⟩, fun b hb => ?_⟩
    · have e1 : ((i + 1 : Nat) : Int) = (i : Int) + 1 := by omega
      rw [e1]; exact he'
    · have hb' : b < s.heap.objs.size := by
        have e' : b = e ∨ b = it := by simpa using hb
        rcases e' with z | z
        · rw [z]; exact hel
        · rw [z]; exact hil
      rw [upd_ne (Nat.ne_of_lt hb')]
      exact (hf b hb).1
  done := by
    intro X hP hw hK hc i pins s σ H E I hf st hg
    subst hP hw hK
    obtain ⟨⟨old, he⟩, hit, hne, hea⟩ := st
    obtain ⟨xs, hq, hx⟩ := hg
    obtain ⟨its, rv, p, hz⟩ := I.tuple hq
    obtain ⟨f0, f1, f2, f3, f4, f5⟩ := hf it (by simp)
    have hl := rv.length
    have hh : X.A.in1.handled = none := I.ok.hd hc
    have hT : s.TypeIs (.ref e) "enumerate" := ⟨_, he, rfl⟩
    unfold pyNext
    refine wpAny_bind (wpAny_attempt (wpAny_callSpecial?_slot (name := Str.ofString "__next__") hT F.slot_enumerate_next
      (wpAny_call_entry F.slot_enumerate_next hT F.entry_enumerate_next ?_ (F.args_enumerate_next_1 _))))
    show wpAny _ _ (field (.ref e) 2 >>= _) _ _ _
    refine wpAny_bind (wpAny_field he rfl (x := .ref it) rfl ?_)
    refine wpAny_bind (wpAny_nextOf_tuple_end hh hit (show s.heap.IsTuple a its.toArray from p) (by simp; omega) fun h' x he' hx' => ?_)
    obtain ⟨o, ho, hc⟩ := hx'
    refine wpAny_bind (wpAny_isInstance (T := "StopIteration") (b := true) ⟨o, ho, hc⟩ isSubtype_stop ?_)
    exact wpAny_pure ⟨rfl, I.turned (t' := s.toks) (fun b o hb q => he' b o hb q) f0 f1 f3 f4 f5⟩
  self := fun A i s Q E st h => let ⟨⟨_, he⟩, _⟩ := st; wpAny_pyIter_enum he h
def iEnumT (K : PySem.W.Frag) (ta : TA) : TI := fun σ H R => ta σ H fun vs H1 => ∃ a xs, vs = [.ref a] ∧ SqT K H1 a xs ∧ R (Iet K a) H1
theorem pi_enumT {X : Cx} {e : Expr} {ta : TA} {p pos tpos : Pos} {elts : List Expr} {kk : Nat} (hg : Gl X "enumerate") (hm : X.mg "enumerate" = none) (ha : PA X [e] ta) (hs : starEach [e] X.env = [(false, eval e X.env)] := by rfl) :
    PI X (.Tuple elts kk tpos) (.Call (.Name "enumerate" p) [e] [] pos) (iEnumT X.K ta) := by
  refine ⟨fun pins s σ H R I h => ?_⟩
  refine Call_ (ld_blt I hg hm boot_enumerate (PyProof.Rows.callWith_type1 (thn (ha.run pos pins s σ H _ I h) fun us s1 ⟨vs, H1, I1, r1, q1⟩ => ?_) hs rfl))
  obtain ⟨a, xs, ex, hq, q⟩ := q1
  subst ex
  cases r1 with
  | cons r rr =>
    cases rr
    cases r
    obtain ⟨its, rv, p', hz⟩ := I1.tuple hq
    have hal : a < s1.heap.objs.size := by obtain ⟨o, ho, _⟩ := p'; exact Heap.lt_size ho
    refine j_enum_begins (begins_tuple a its.toArray) p' fun h' he hit hsz hk => wpAny_pyIter_enum he ?_
    have I2 : Inv X pins σ H1 { s1 with heap := h' } := I1.kept (t' := s1.toks) hk
    refine ⟨s1.heap.objs.size + 1, [s1.heap.objs.size + 1, s1.heap.objs.size], _, _, H1, rfl, I2, turn_enumT a (s1.heap.objs.size + 1) s1.heap.objs.size (Nat.ne_of_lt hal), ⟨⟨.none, he⟩, ⟨_, hit, rfl, rfl⟩, Nat.succ_ne_self _, Nat.ne_of_gt (Nat.lt_succ_of_lt hal)⟩, fun b hb => ?_, q⟩
    have e' : b = s1.heap.objs.size + 1 ∨ b = s1.heap.objs.size := by simpa using hb
    have hle : s1.heap.objs.size ≤ b := by
      rcases e' with z | z
      · rw [z]; exact Nat.le_add_right _ _
      · rw [z]; exact Nat.le_refl _
    exact I1.fpOk hle (I1.hok.fresh hle)

/-! ### dict(pairs), the keys tuples -/
def mergeT (kvs more : List (List Key × V)) : List (List Key × V) := more.foldl (fun acc kv => putK acc kv.1 kv.2) kvs
theorem length_mergeT : ∀ (more kvs : List (List Key × V)), (mergeT kvs more).length ≤ kvs.length + more.length
  | [], kvs => Nat.le_refl _
  | m :: more, kvs => by
    have h := length_mergeT more (putK kvs m.1 m.2)
    have h2 := length_putK kvs m.1 m.2
    show (mergeT (putK kvs m.1 m.2) more).length ≤ kvs.length + (more.length + 1)
    omega
theorem KT.merge {H : Hp} : ∀ {ts : List (List Key × Addr × V)} {ps : List (List Key × Addr × Value)} {kvs : List (List Key × V)} {xs : List (List Key × Addr × Value)},
    Paired (fun (t : List Key × Addr × V) (p : List Key × Addr × Value) => t.1 = p.1 ∧ t.2.1 = p.2.1 ∧ RelV t.2.2 p.2.2 ∧ H t.2.1 = some (.tup (t.1.map kV))) ts ps → KT H kvs xs →
    KT H (mergeT kvs (ts.map fun t => (t.1, t.2.2))) (storedAllH xs ps)
  | [], _, _, _, h, r => by cases h; exact r
  | t :: ts, _, kvs, xs, h, r => by
    cases h with
    | @cons _ p _ ps h1 h2 =>
      obtain ⟨e1, e2, r1, hb⟩ := h1
      have q := KT.put r t.1 (b := p.2.1) (by rw [← e2]; exact hb) r1
      have z : storedAllH xs (p :: ps) = storedAllH (storedH xs t.1 p.2.1 p.2.2) ps := by rw [e1]; rfl
      rw [z]
      exact KT.merge (ts := ts) (kvs := putK kvs t.1 t.2.2) h2 q
theorem pairs_ofT {X : Cx} {pins : List (Addr × Obj)} {σ : L2.St} {H : Hp} {s : Shared} (I : Inv X pins σ H s) : ∀ {ps : List Addr} {ts : List (List Key × Addr × V)}, Paired (fun p (t : List Key × Addr × V) => H p = some (.tup [.ref t.2.1, t.2.2]) ∧ H t.2.1 = some (.tup (t.1.map kV))) ps ts →
    ∃ qs : List (List Key × Addr × Value), Paired (fun (t : List Key × Addr × V) (p : List Key × Addr × Value) => t.1 = p.1 ∧ t.2.1 = p.2.1 ∧ RelV t.2.2 p.2.2 ∧ H t.2.1 = some (.tup (t.1.map kV))) ts qs ∧ qs.length = ps.length ∧
      ∀ (j : Nat) (q : List Key × Addr × Value), qs[j]? = some q → ∃ b : Addr, ps[j]? = some b ∧ IsTup s.heap b #[.ref q.2.1, q.2.2] ∧ (tupleKind (mixKind X.prog X.w)).is s.heap q.1 q.2.1
  | _, _, .nil => ⟨[], .nil, rfl, fun j q e => by simp at e⟩
  | _, _, .cons (a := p) (b := t) h tl => by
    obtain ⟨qs, r, hl, hp⟩ := pairs_ofT I tl
    obtain ⟨its, rv, ht, _⟩ := I.tuple (SqT.of h.1)
    obtain ⟨u, y, ei, ru, ry⟩ := vals2 rv
    subst ei
    cases ru
    refine ⟨(t.1, t.2.1, y) :: qs, .cons ⟨rfl, rfl, ry, h.2⟩ r, by rw [List.length_cons, List.length_cons, hl], fun j q e => ?_⟩
    cases j with
    | zero =>
      have e' : (t.1, t.2.1, y) = q := Option.some.inj e
      subst e'
      exact ⟨p, rfl, ht, key_of I.hok h.2⟩
    | succ j =>
      obtain ⟨b, e1, e2, e3⟩ := hp j q (by simpa using e)
      exact ⟨b, by simpa using e1, e2, e3⟩
def rDictT (K : PySem.W.Frag) : List V → Hp → VK → Prop := fun xs H Q => ∃ (a : Addr) (ps : List Addr) (ts : List (List Key × Addr × V)), xs = [.ref a] ∧ H a = some (.lst (ps.map V.ref)) ∧
    Paired (fun p (t : List Key × Addr × V) => H p = some (.tup [.ref t.2.1, t.2.2]) ∧ H t.2.1 = some (.tup (t.1.map kV))) ps ts ∧
    ∀ p, H p = none → Q (.ref p) (upd H p (.dT (mergeT [] (ts.map fun t => (t.1, t.2.2)))))
theorem call_dictT {X : Cx} (hcalm : X.calm = true) (hu : X.A.units + 64 < cLine) : CallR X (.type "dict") (rDictT X.K) := by
  intro pins s σ H xs us Q I r q
  obtain ⟨a, ps, ts, ex, hq, hp, q⟩ := q
  subst ex
  obtain ⟨u, eu, rx⟩ := vals1 r
  subst eu
  cases rx
  obtain ⟨hz, its, n, rv, hlen, ho⟩ := I.lstM hq
  have ei := refs_at rv
  subst ei
  rw [List.length_map] at hz
  obtain ⟨qs, rel, hl, hpr⟩ := pairs_ofT I hp
  have hall : ∀ x ∈ qs, (tupleKind (mixKind X.prog X.w)).is s.heap x.1 x.2.1 := fun x hx => by
    obtain ⟨j, hj⟩ := List.getElem?_of_mem hx
    exact (hpr j x hj).choose_spec.2.2
  refine call_dict_pairsH (knd := tupleKind (mixKind X.prog X.w)) (n := (qs.map fun p => (Value.ref p.2.1, p.2.2)).length) (ps := qs)
    (PairArg.list a (ps.map Value.ref).toArray (fun j => ps.getD j 0) (qs.map fun p => (Value.ref p.2.1, p.2.2))) (I.ok.hd hcalm) ?hu ?ok ?hc ?st ?sz ?fin
  case hu =>
    show X.A.in1.in1.units < cLine
    have z : X.A.in1.in1.units = X.A.units + 1 + 1 := rfl
    rw [z]
    omega
  case ok =>
    refine ⟨⟨_, n, ho, rfl, rfl, rfl⟩, by simp [hl], fun j k v e => ?_⟩
    rw [List.getElem?_map] at e
    cases e1 : qs[j]? with
    | none => rw [e1] at e; cases e
    | some x =>
      rw [e1] at e
      cases Option.some.inj e
      obtain ⟨b, hb, ht, _⟩ := hpr j x e1
      have hg : ps.getD j 0 = b := by rw [List.getD_eq_getElem?_getD, hb]; rfl
      show (ps.map Value.ref).toArray[j]? = some (Value.ref (ps.getD j 0)) ∧ PairAt s.heap (ps.getD j 0) (Value.ref x.2.1) x.2.2
      rw [hg]
      exact ⟨by simp [hb], .inl ht⟩
  case hc =>
    refine ⟨by simp, fun i key v e => ?_⟩
    have e : (qs.map fun p => (Value.ref p.2.1, p.2.2))[i]? = some (key, v) := e
    rw [List.getElem?_map] at e
    cases e1 : qs[i]? with
    | none => rw [e1] at e; cases e
    | some x =>
      rw [e1] at e
      cases Option.some.inj e
      exact ⟨x.1, x.2.1, by first | exact e1 | rfl, rfl⟩
  case st =>
    intro h' k x hx
    have st : (tupleKind (mixKind X.prog X.w)).Stays := tupleKind_stays
    exact st.stays (fun b o vs n eb _ => k b o (Nat.ne_of_lt (Heap.lt_size eb)) (fun z => nomatch z) eb) (hall x hx)
  case sz =>
    rw [List.length_map, hl]; exact hz
  case fin =>
    intro h' tk hd' k
    have hm : (s.heap.objs.size == sysModules) = false := beq_eq_false_iff_ne.mpr (Nat.ne_of_gt I.big)
    have hts : ts.length = qs.length := Paired.length rel
    have hlen : (mergeT [] (ts.map fun t => (t.1, t.2.2))).length ≤ sizeLine := by
      refine Nat.le_trans (length_mergeT _ []) ?_
      rw [List.length_nil, Nat.zero_add, List.length_map, hts, hl]
      exact hz
    obtain ⟨o, es, ep, hq', h2, h3, h4, _, h5⟩ := hd'
    have kt : KT H (mergeT [] (ts.map fun t => (t.1, t.2.2))) (storedAllH [] qs) := KT.merge rel .nil
    refine ⟨.ref s.heap.objs.size, upd H s.heap.objs.size (.dT (mergeT [] (ts.map fun t => (t.1, t.2.2)))), I.laid (t' := tk) (fun b o e => k b o (fun z => nomatch z) e) (Nat.le_refl _) ⟨hlen, hm, _, kt.keeps fun c ys ec => ?_, o, es, ep, hq', h2, h3, h4, h5⟩, rfl, q _ (I.hok.fresh (Nat.le_refl _))⟩
    rw [upd_ne (ne_of_none ec (I.hok.fresh (Nat.le_refl _)))]
    exact ec

/-! ### sorted(d), d a dict whose keys are pairs of ints -/
abbrev lexB := SrtO.lexB
def kOf (H : Hp) : V → Int × Int
  | .ref a => match H a with
    | some (.tup [.int i, .int j]) => (i, j)
    | _ => (0, 0)
  | _ => (0, 0)
theorem kOf_ref {H : Hp} {a : Addr} {i j : Int} (h : H a = some (.tup [.int i, .int j])) : kOf H (.ref a) = (i, j) := by
  show (match H a with | some (.tup [.int i, .int j]) => (i, j) | _ => (0, 0)) = (i, j)
  rw [h]
def pairK (p : Int × Int) : List Key := [.inl p.1, .inl p.2]
def rSortedDT : List V → Hp → VK → Prop := fun xs H Q => ∃ (d : Addr) (kvs : List (List Key × V)) (ks : List (Int × Int)), xs = [.ref d] ∧ H d = some (.dT kvs) ∧ kvs.map (·.1) = ks.map pairK ∧
  ∀ (p : Addr) (zs : List (Addr × Int × Int)), H p = none → SrtO.Srtd lexB (zs.map (·.2)) → SrtO.Stb lexB (zs.map (·.2)) ks → (∀ z ∈ zs, H z.1 = some (.tup [.int z.2.1, .int z.2.2])) → Q (.ref p) (upd H p (.lst (zs.map fun z => V.ref z.1)))
theorem cr_sortedDT {X : Cx} (hc : X.calm = true) : CallR X (.builtin "sorted") rSortedDT := by
  intro pins s σ H xs us Q I r h
  obtain ⟨d, kvs, ks, rfl, hd, hks, q⟩ := h
  obtain ⟨u, rfl, rx⟩ := vals1 r
  cases rx
  obtain ⟨z, hs, xs', pr, o, es, ep, ho, hx, hdt, he, hn⟩ := (show ObjOk X.prog X.w H s.heap d (.dT kvs) from I.hok d _ hd)
  have l1 : es.size = xs'.length := size_of_entries he
  have l2 : kvs.length = xs'.length := Paired.length pr
  -- the keys' addresses
  have hk : ∀ x ∈ xs', ∃ k ∈ ks, H x.2.1 = some (.tup [.int k.1, .int k.2]) := by
    intro x hx'
    obtain ⟨j, hj⟩ := List.getElem?_of_mem hx'
    obtain ⟨e0, he0, r1, r2, r3⟩ := L2.DX.pget pr hj
    have e1 : (kvs.map (·.1))[j]? = some e0.1 := by rw [List.getElem?_map, he0]; rfl
    rw [hks, List.getElem?_map] at e1
    cases hkj : ks[j]? with
    | none => rw [hkj] at e1; cases e1
    | some k =>
      rw [hkj] at e1
      have e2 : pairK k = e0.1 := Option.some.inj e1
      refine ⟨k, List.mem_of_getElem? hkj, ?_⟩
      rw [r2, ← e2]
      rfl
  have hkl : xs'.map (fun x => kOf H (.ref x.2.1)) = ks := by
    have e1 : kvs.map (fun kv => kv.1) = xs'.map (fun x => x.1) := by
      clear hks hk l1 l2 he hn q hd r z
      induction pr with
      | nil => rfl
      | cons h t ih => rw [List.map_cons, List.map_cons, h.1, ih]
    have e2 : xs'.map (fun x => x.1) = ks.map pairK := by rw [← e1]; exact hks
    apply List.ext_getElem?
    intro j
    rw [List.getElem?_map]
    have e3 : (xs'.map (fun x => x.1))[j]? = (ks.map pairK)[j]? := by rw [e2]
    rw [List.getElem?_map, List.getElem?_map] at e3
    cases hj : xs'[j]? with
    | none =>
      rw [hj] at e3
      cases hkj : ks[j]? with
      | none => rfl
      | some k => rw [hkj] at e3; cases e3
    | some x =>
      rw [hj] at e3
      cases hkj : ks[j]? with
      | none => rw [hkj] at e3; cases e3
      | some k =>
        rw [hkj] at e3
        have e4 : x.1 = pairK k := Option.some.inj e3
        obtain ⟨e0, he0, r1, r2, r3⟩ := L2.DX.pget pr hj
        have e5 : H x.2.1 = some (.tup [.int k.1, .int k.2]) := by rw [r2, r1, e4]; rfl
        exact congrArg some (kOf_ref e5)
  refine Calls.call_function_entry kind_sorted plain_sorted entry_sorted (args_sorted1 _) ?_
  unfold Builtin.«sorted»
  refine wpAny_bind (m := checkCount "sorted" 1 1 _) (wpAny_pure ?_)
  refine wpAny_bind (PySem.W.kdu_collect (A := X.A.in1) (kdl_raw hs hx hdt) (show X.A.in1.handled = none from I.ok.hd hc) ho (by omega) fun h' tk acc kp it => ?_)
  have ea : acc.toList = (xs'.map fun x => x.2.1).map Value.ref := by
    rw [List.map_map]
    have hl : acc.toList.length = xs'.length := by rw [Array.length_toList, it.1]; exact l1
    apply List.ext_getElem?
    intro j
    rw [List.getElem?_map]
    cases hj : acc.toList[j]? with
    | none =>
      have h1 := List.getElem?_eq_none_iff.mp hj
      rw [List.getElem?_eq_none (by omega)]
      all_goals rfl
    | some v =>
      obtain ⟨en, hen, hv⟩ := it.2 j v (by rw [← Array.getElem?_toList]; exact hj)
      have qe := entry_at he j
      rw [hen] at qe
      cases hb : xs'[j]? with
      | none =>
        rw [hb] at qe
        exact nomatch (show some en = none from qe)
      | some b =>
        rw [hb] at qe
        have e2 : en = entryOfKey (tupleKind (mixKind X.prog X.w)) b := Option.some.inj qe
        rw [hv, e2]
        all_goals rfl
  rw [ea]
  generalize has : xs'.map (fun x => x.2.1) = as
  have hal : as.length = xs'.length := by rw [← has, List.length_map]
  have hat : ∀ a ∈ as, ∃ k : Int × Int, H a = some (.tup [.int k.1, .int k.2]) := by
    intro a ha
    rw [← has] at ha
    obtain ⟨x, hx', rfl⟩ := List.mem_map.mp ha
    obtain ⟨k, _, e⟩ := hk x hx'
    exact ⟨k, e⟩
  have hask : as.map (fun a => kOf H (.ref a)) = ks := by rw [← has, List.map_map]; exact hkl
  refine wpAny_bind (wpAny_newList ?_ (by rw [List.length_map, hal]; omega))
  have hob : (h'.push { cls := .type "list", data := .seq (as.map Value.ref).toArray }).get? h'.objs.size = some (seqObj "list" (as.map Value.ref).toArray 0) := Heap.get?_push_size _ rfl
  have kb : ∀ b o, s.heap.get? b = some o → (h'.push { cls := .type "list", data := .seq (as.map Value.ref).toArray }).get? b = some o := fun b o e => Heap.get?_push_of_some _ (kp b o e)
  have ne0 : ∀ b o, h'.get? b = some o → b ≠ h'.objs.size := fun b o e => Nat.ne_of_lt (Heap.lt_size e)
  have I1 : Inv X pins σ H { s with heap := h', toks := tk } := I.kept (t' := tk) kp
  have hn0 : H h'.objs.size = none := I1.hok.fresh (Nat.le_refl _)
  have ka : ∀ b o, h'.get? b = some o → (h'.push { cls := .type "list", data := .seq (as.map Value.ref).toArray }).get? b = some o := fun b o e => Heap.get?_push_of_some _ e
  generalize hh2 : h'.push { cls := .type "list", data := .seq (as.map Value.ref).toArray } = h2 at hob kb ka ⊢
  have hp : ∀ v ∈ as.map Value.ref, Srt.IsPair h2 v (kOf H (backV v)).1 (kOf H (backV v)).2 := fun v hv => by
    obtain ⟨a, ha, rfl⟩ := List.mem_map.mp hv
    obtain ⟨k, hka⟩ := hat a ha
    have e1 : kOf H (backV (Value.ref a)) = k := kOf_ref hka
    rw [e1]
    obtain ⟨_, its2, r2, o, ho, hc, n, hd⟩ := I.hok _ _ hka
    obtain ⟨u1, u2, rfl, ri, rj⟩ := vals2 r2
    obtain ⟨t1, rfl⟩ := ri
    obtain ⟨t2, rfl⟩ := rj
    exact ⟨a, o, t1, t2, n, rfl, kb _ _ ho, hc, hd⟩
  show wpAny _ _ _ _ _ { s with heap := h2, toks := tk }
  refine wpAny_bind (wpAny_holding (wpAny_call_entry PyProof.Rows.slot_list_sort ⟨_, hob, rfl⟩ PyProof.Rows.entry_list_sort
    (SrtO.list_sort_ord (s := { s with heap := h2, toks := tk }) (SrtO.swo_lex fun u => kOf H (backV u)) hob (by rw [List.length_map, hal]; omega) (fun hl2 => SrtO.pairs_sortableO (s := { s with heap := h2, toks := tk }) (by omega) hp fun o e => ?_) fun out h1 h3 => ⟨_, rfl, ?_⟩) (PyProof.Rows.args_list_sort _)))
  · have e' : some o = some (seqObj "list" (as.map Value.ref).toArray 0) := e.symm.trans hob
    cases e'
    intro c
    exact absurd (Value.type.inj c) (by decide)
  · refine wpAny_pure ⟨_, rfl, ?_⟩
    obtain ⟨ep', he'⟩ := PyProof.Rows.sortedHeap_at (vs := as.map Value.ref) (out := out.toArray) hob
    have hmem : ∀ u ∈ out, ∃ a, u = Value.ref a ∧ a ∈ as := fun u hu => by
      obtain ⟨a, ha, e⟩ := List.mem_map.mp (h3.perm.mem_iff.mp hu)
      exact ⟨a, e.symm, ha⟩
    have h3' : ∀ u ∈ out, ∃ a, u = Value.ref a := fun u hu => let ⟨a, e, _⟩ := hmem u hu; ⟨a, e⟩
    have kS : ∀ b o, h'.get? b = some o → (sortedHeap h2 h'.objs.size (as.map Value.ref) out.toArray).get? b = some o := fun b o e =>
      (PyProof.Rows.sortedHeap_old (ne0 b o e) (Heap.lt_size (ka b o e))).trans (ka b o e)
    -- the answer
    let zs : List (Addr × Int × Int) := out.map fun u => (match u with | .ref a => a | _ => 0, kOf H (backV u))
    have ez : (zs.map fun z => V.ref z.1) = out.map backV := by
      show (out.map _).map _ = _
      rw [List.map_map]
      apply List.map_congr_left
      intro u hu
      obtain ⟨a, rfl, _⟩ := hmem u hu
      rfl
    have ek : zs.map (·.2) = out.map fun u => kOf H (backV u) := by
      show (out.map _).map _ = _
      rw [List.map_map]
      rfl
    have eks : (as.map Value.ref).map (fun u => kOf H (backV u)) = ks := by
      rw [List.map_map]
      exact hask
    have hsrt : SrtO.Srtd lexB (zs.map (·.2)) := by
      rw [ek]
      exact SrtO.srtd_map h1
    have swo : SrtO.Swo lexB := by
      refine ⟨fun x y h => ?_, fun x y z h1 h2 => ?_⟩
      · have a := SrtO.lexB_iff.mp h
        refine SrtO.lexB_no.mpr ?_
        omega
      · have a := SrtO.lexB_no.mp h1
        have b := SrtO.lexB_no.mp h2
        refine SrtO.lexB_no.mpr ?_
        omega
    have hstb : SrtO.Stb lexB (zs.map (·.2)) ks := by
      rw [ek, ← eks]
      exact SrtO.Stb.map swo (fun u => kOf H (backV u)) h3
    have hz : ∀ z ∈ zs, H z.1 = some (.tup [.int z.2.1, .int z.2.2]) := by
      intro z hz
      obtain ⟨u, hu, rfl⟩ := List.mem_map.mp hz
      obtain ⟨a, rfl, ha⟩ := hmem u hu
      obtain ⟨k, hka⟩ := hat a ha
      have e1 : kOf H (backV (Value.ref a)) = k := kOf_ref hka
      show H a = _
      rw [e1]
      exact hka
    have hlen : (zs.map fun z => V.ref z.1).length ≤ sizeLine := by
      have e := h3.len
      rw [List.length_map, hal] at e
      rw [ez, List.length_map, e]
      omega
    refine ⟨.ref h'.objs.size, upd H h'.objs.size (.lst (zs.map fun z => V.ref z.1)), I1.laid (h' := sortedHeap h2 h'.objs.size (as.map Value.ref) out.toArray) (t' := tk) kS (Nat.le_refl _) ⟨hlen, out, ep', by rw [ez]; exact vals_back h3', he'⟩, rfl, q _ zs hn0 hsrt hstb hz⟩
end J

namespace J
open PySem L2 Evl
/-! ### operators by what stands there -/
def rAddA (K : PySem.W.Frag) : R2 := fun x y H Q => rI0 (fun i j => .int (i + j)) x y H Q ∨ (fun (x y : V) (H : Hp) (Q : VK) => ∃ i j, x = .str i ∧ y = .str j ∧ i.length + j.length ≤ sizeLine ∧ Q (.str (i ++ j)) H) x y H Q ∨ rCat x y H Q ∨ rCatA K x y H Q
theorem op_addA {X : Cx} : OpR X (binaryOp .Add) (rAddA X.K) := op_add.or (op_add_str.or (op_cat.or op_catA))
def rMulA : R2 := fun x y H Q => rI CMul (fun i j => .int (i * j)) x y H Q ∨ rRep x y H Q
theorem op_mulA {X : Cx} : OpR X (binaryOp .Mult) rMulA := op_mul.or op_rep
def rLtA (K : PySem.W.Frag) : R2 := fun x y H Q => rI0 (fun i j => .bl (decide (i < j))) x y H Q ∨ rLtT K x y H Q
theorem op_ltA {X : Cx} (hu : X.A.units < cLine) : OpR X (compareOp .Lt) (rLtA X.K) := op_lt.or (op_ltT hu)
theorem pi_or {X : Cx} {tg iter : Expr} {w1 w2 : TI} (h1 : PI X tg iter w1) (h2 : PI X tg iter w2) : PI X tg iter (fun σ H R => w1 σ H R ∨ w2 σ H R) :=
  ⟨fun pins s σ H R I h => h.elim (h1.run pins s σ H R I) (h2.run pins s σ H R I)⟩
def iSeq (K : PySem.W.Frag) (te : TE) : TI := fun σ H R => iList K te σ H R ∨ iTup K te σ H R
theorem pi_seq {X : Cx} {tg l : Expr} {tl : TE} (hl : PE X l tl) : PI X tg l (iSeq X.K tl) := pi_or (pi_list hl) (pi_tup hl)
def iEn (K : PySem.W.Frag) (ta : TA) : TI := fun σ H R => iEnum K ta σ H R ∨ iEnumT K ta σ H R
theorem pi_en {X : Cx} {e : Expr} {ta : TA} {p pos tpos : Pos} {elts : List Expr} {kk : Nat} (hg : Gl X "enumerate") (hm : X.mg "enumerate" = none) (ha : PA X [e] ta) (hs : starEach [e] X.env = [(false, eval e X.env)] := by rfl) :
    PI X (.Tuple elts kk tpos) (.Call (.Name "enumerate" p) [e] [] pos) (iEn X.K ta) := pi_or (pi_enum hg hm ha hs) (pi_enumT hg hm ha hs)
/-- a module's constant -/
theorem pe_gI {X : Cx} {x : Str} {i : Int} {pos : Pos} (hg : Gl X x) (hm : ∃ t, X.mg x = some (.int i t)) (hd : (x == ("__debug__" : Str)) = false := by decide) : PE X (.Name x pos) (tC (.int i)) := let ⟨t, h⟩ := hm; pe_glob hg h ⟨t, rfl⟩ hd
theorem pe_gS {X : Cx} {x : Str} {i : Str} {pos : Pos} (hg : Gl X x) (hm : ∃ t, X.mg x = some (.str i t)) (hd : (x == ("__debug__" : Str)) = false := by decide) : PE X (.Name x pos) (tC (.str i)) := let ⟨t, h⟩ := hm; pe_glob hg h ⟨t, rfl⟩ hd
theorem pe_gR {X : Cx} {x : Str} {a : Addr} {pos : Pos} (hg : Gl X x) (hm : X.mg x = some (.ref a)) (hd : (x == ("__debug__" : Str)) = false := by decide) : PE X (.Name x pos) (tC (.ref a)) := pe_glob hg hm rfl hd
/-- a built-in type as a value -/
theorem pe_ty {X : Cx} {x : Str} {n : String} {pos : Pos} (hg : Gl X x) (hm : X.mg x = none) (hv : bootBuiltins x = some (.type n)) (hn : x ≠ "__name__" := by decide) (hd : (x == ("__debug__" : Str)) = false := by decide) : PE X (.Name x pos) (tC (.ty n)) := pe_bltn hg hm hv rfl hn hd

/-! ### a def that stands at the top, with its promise -/
structure Dk (P : Program) (w : World) (K : PySem.W.Frag) (mg : Str → Option Value) (base : Heap) (k : Nat) (x : Str) (ps : List Str) (sp : Sp) : Prop where
  ex : ∃ f fd, FnOk P w K mg base CX0 k f fd ps sp ∧ Binds K fd ps [] ∧ mg x = some (.ref f) ∧ PySem.W.keepIn K (.ref f) = true
theorem pe_fn {X : Cx} {k : Nat} {x : Str} {ps : List Str} {sp : Sp} {p pos : Pos} {e : Expr} {es : List Expr} {t : TA} (D : Dk X.prog X.w X.K X.mg X.base k x ps sp) (hr : Room k X.A) (hg : Gl X x) (ha : PA X (e :: es) t)
    (hdb : (x == ("__debug__" : Str)) = false := by decide) (he : starEach (e :: es) X.env = (false, eval e X.env) :: starEach es X.env := by rfl) (hpl : (backTo pos (starEach es X.env)).any (·.1) = false := by rfl) :
    PE X (.Call (.Name x p) (e :: es) [] pos) (tCall sp [] E0 t) := let ⟨f, fd, F, b, m, kp⟩ := D.ex; pe_call F hr hg m kp b .nil pass0 ha hdb he hpl

/-! ### the rules with the written part named -/
section
variable [Tbs] {X : Cx} (K : PySem.W.Frag) (h : X.K = K)
include h
theorem ix_seqK : IxR X (rIx K) := h ▸ ix_seq
theorem op_addK : OpR X (binaryOp .Add) (rAddA K) := h ▸ op_addA
theorem op_eqK (hu : X.A.units + 64 < cLine) : OpR X (compareOp .Eq) (rEqA K) := h ▸ op_eqA hu
theorem op_neK (hu : X.A.units + 64 < cLine) : OpR X (compareOp .NotEq) (rNeA K) := h ▸ op_neA hu
theorem op_ltK (hu : X.A.units < cLine) : OpR X (compareOp .Lt) (rLtA K) := h ▸ op_ltA hu
theorem op_inK : OpR X (compareOp .In) (rIn K false) := h ▸ op_in_seq
theorem op_ninK : OpR X (compareOp .NotIn) (rIn K true) := h ▸ op_notIn_seq
theorem sl_seqK : SlR X (rSlA K) := h ▸ sl_seq
theorem call_isiK' : CallR X (.builtin "isinstance") (rIsi K) := h ▸ call_isi
theorem call_lenK : CallR X (.builtin "len") (fun xs H Q => ∃ p ys, xs = [.ref p] ∧ (SqL K H p ys ∨ SqT K H p ys) ∧ Q (.int ys.length) H) := h ▸ call_len_seq
theorem cr_sumK (hc : X.calm = true) : CallR X (.builtin "sum") (rSum K) := h ▸ cr_sum hc
theorem cr_allK (hc : X.calm = true) : CallR X (.builtin "all") (rAll K) := h ▸ cr_all hc
theorem call_tupleK : CallR X (.type "tuple") (fun xs H Q => ∃ p ys, xs = [.ref p] ∧ ((SqL K H p ys ∧ ∀ l, H l = none → Q (.ref l) (upd H l (.tup ys))) ∨ (SqT K H p ys ∧ Q (.ref p) H))) := h ▸ call_tuple_of
theorem call_listK : CallR X (.type "list") (fun xs H Q => ∃ p ys, xs = [.ref p] ∧ (SqL K H p ys ∨ SqT K H p ys) ∧ ∀ l, H l = none → Q (.ref l) (upd H l (.lst ys))) := h ▸ call_list_of
theorem call_dictK (hc : X.calm = true) (hu : X.A.units + 64 < cLine) : CallR X (.type "dict") (rDictT K) := h ▸ call_dictT hc hu
theorem pi_seqK {tg l : Expr} {tl : TE} (hl : PE X l tl) : PI X tg l (iSeq K tl) := h ▸ pi_seq hl
theorem pi_enK {e : Expr} {ta : TA} {p pos tpos : Pos} {elts : List Expr} {kk : Nat} (hg : Gl X "enumerate") (hm : X.mg "enumerate" = none) (ha : PA X [e] ta) (hs : starEach [e] X.env = [(false, eval e X.env)] := by rfl) :
    PI X (.Tuple elts kk tpos) (.Call (.Name "enumerate" p) [e] [] pos) (iEn K ta) := h ▸ pi_en hg hm ha hs
theorem pg_tupK {es : List Expr} {k : Nat} {pos : Pos} {t : TGs} (n : Nat) (hc : X.calm = true) (hn : es.length = n) (ht : PGs X es t) (hp : PG X (.Tuple es k pos) (gTup X.K n t)) : PG X (.Tuple es k pos) (gTup K n t) := h ▸ hp
end
section
variable [Tbs] {K : PySem.W.Frag} {σ : L2.St} {G G0 H0 G1 H : Hp} {ta tb tc te tx : TE} {t u : TT} {x y z v : V} {d d1 d2 d3 : D} {ds es : List D} {as bs : TA} {i j k m : Int} {a b c : Bool} {n : Nat} {Y : Nat → D} {wi : TI} {g : TG} {js : List Nat}
theorem e_addI (ha : EvD K ta σ G (.int i)) (hb : EvD K tb σ G (.int j)) : EvD K (tOp (rAddA K) ta tb) σ G (.int (i + j)) :=
  e_op ha hb fun x y G1 H1 Q e1 e2 r1 r2 q => .inl ⟨i, j, r1.int_of, r2.int_of, q _ G1 H1 (Step.refl e2) (.int _)⟩
theorem e_addSA {p q : Str} (ha : EvD K ta σ G (.str p)) (hb : EvD K tb σ G (.str q)) (hl : p.length + q.length ≤ sizeLine) : EvD K (tOp (rAddA K) ta tb) σ G (.str (p ++ q)) :=
  e_op ha hb fun x y G1 H1 Q e1 e2 r1 r2 k => .inr (.inl ⟨p, q, r1.str_of, r2.str_of, hl, k _ G1 H1 (Step.refl e2) (.str _)⟩)
theorem f_cat (ha : EvD K ta σ G (.lst ds)) (hb : EvD K tb σ G (.lst es)) (hl : ds.length + es.length ≤ 1000000) : EvF K (tOp (rAddA K) ta tb) σ G (ds ++ es) := fun H e Q q =>
  ha H e _ fun x G1 H1 s1 r1 => (hb.mono s1.g) H1 s1.i _ fun y G2 H2 s2 r2 => by
    obtain ⟨l, xs, rfl, hs, hx⟩ := (r1.ex s2.g).lst_of
    obtain ⟨m, ys, rfl, hs2, hy⟩ := r2.lst_of
    refine .inr (.inr (.inl ⟨l, m, xs, ys, rfl, rfl, s2.i _ _ hs, s2.i _ _ hs2, ?_, fun p hp => q p _ G2 _ ((s1.trans s2).trans (Step.own s2.i hp)) ((s1.trans s2).pre hp) (Step.back s2.i hp) upd_same (hx.app hy)⟩))
    rw [hx.len, hy.len, sizeLine_eq]
    omega
theorem e_catA (ha : EvD K ta σ G (.tup ds)) (hb : EvD K tb σ G (.tup es)) (hl : ds.length + es.length ≤ 1000000) : EvD K (tOp (rAddA K) ta tb) σ G (.tup (ds ++ es)) := fun H e Q q =>
  ha H e _ fun x G1 H1 s1 r1 => (hb.mono s1.g) H1 s1.i _ fun y G2 H2 s2 r2 => by
    obtain ⟨l, xs, rfl, hs, hx⟩ := (r1.ex s2.g).tup_of
    obtain ⟨m, ys, rfl, hs2, hy⟩ := r2.tup_of
    refine .inr (.inr (.inr ⟨l, m, xs, ys, rfl, rfl, .of (s2.i _ _ hs), .of (s2.i _ _ hs2), ?_, fun z => ?_, fun z z2 => ?_, fun _ _ p hp => q _ _ _ ((s1.trans s2).trans (Step.new s2.i hp)) (.tup upd_same ((hx.app hy).ex (Ex.new (Step.back s2.i hp))))⟩))
    · rw [hx.len, hy.len, sizeLine_eq]
      omega
    · subst z
      cases hx
      exact q _ _ _ (s1.trans s2) (.tup hs2 hy)
    · subst z2
      cases hy
      rw [List.append_nil] at q
      exact q _ _ _ (s1.trans s2) (.tup hs hx)
theorem e_catT (ha : EvD K ta σ G (.tup ds)) (hb : EvD K tb σ G (.tup es)) (hd : ds ≠ []) (he : es ≠ []) (hl : ds.length + es.length ≤ 1000000) : EvD K (tOp (rAddA K) ta tb) σ G (.tup (ds ++ es)) := e_catA ha hb hl
theorem e_catT0 (ha : EvD K ta σ G (.tup ds)) (hb : EvD K tb σ G (.tup es)) (hd : ds ≠ []) (hl : ds.length + es.length ≤ 1000000) : EvD K (tOp (rAddA K) ta tb) σ G (.tup (ds ++ es)) := e_catA ha hb hl
theorem e_mulI (ha : EvD K ta σ G (.int i)) (hb : EvD K tb σ G (.int j)) (hc : CMul i j) : EvD K (tOp rMulA ta tb) σ G (.int (i * j)) :=
  e_op ha hb fun x y G1 H1 Q e1 e2 r1 r2 q => .inl ⟨i, j, r1.int_of, r2.int_of, hc, q _ G1 H1 (Step.refl e2) (.int _)⟩
theorem RpA.rep {xs : List V} (r : RpA K H xs ds) : ∀ n : Nat, RpA K H (List.replicate n xs).flatten (List.replicate n ds).flatten
  | 0 => .nil
  | n + 1 => by
    rw [List.replicate_succ, List.flatten_cons, List.replicate_succ, List.flatten_cons]
    exact r.app (RpA.rep r n)
theorem f_rep {n : Nat} (ha : EvD K ta σ G (.lst ds)) (hb : EvD K tb σ G (.int n)) (hl : ds.length * n ≤ 1000000) (hn : n ≤ 1000000) : EvF K (tOp rMulA ta tb) σ G (List.replicate n ds).flatten := fun H e Q q =>
  ha H e _ fun x G1 H1 s1 r1 => (hb.mono s1.g) H1 s1.i _ fun y G2 H2 s2 r2 => by
    obtain ⟨l, xs, rfl, hs, hx⟩ := (r1.ex s2.g).lst_of
    refine .inr ⟨l, (n : Int), xs, rfl, r2.int_of, s2.i _ _ hs, by omega, by omega, ?_, fun p hp => q p _ G2 _ ((s1.trans s2).trans (Step.own s2.i hp)) ((s1.trans s2).pre hp) (Step.back s2.i hp) upd_same ?_⟩
    · rw [hx.len, sizeLine_eq]
      have : (n : Int).toNat = n := rfl
      rw [this]
      omega
    · exact hx.rep n
theorem e_ltI (ha : EvD K ta σ G (.int i)) (hb : EvD K tb σ G (.int j)) : EvD K (tOp (rLtA K) ta tb) σ G (.bl (decide (i < j))) :=
  e_op ha hb fun x y G1 H1 Q e1 e2 r1 r2 q => .inl ⟨i, j, r1.int_of, r2.int_of, q _ G1 H1 (Step.refl e2) (.bl _)⟩
theorem e_ltT {ns ms : List Int} (ha : EvD K ta σ G (.tup ds)) (hb : EvD K tb σ G (.tup es)) (hd : ds = ns.map D.int) (he : es = ms.map D.int) : EvD K (tOp (rLtA K) ta tb) σ G (.bl (HT.lexLt ns ms)) :=
  e_op ha hb fun x y G1 H1 Q e1 e2 r1 r2 q => by
    subst hd he
    obtain ⟨l, xs, rfl, hs, hx⟩ := r1.tup_of
    obtain ⟨m, ys, rfl, hs2, hy⟩ := r2.tup_of
    have z1 := hx.ints
    have z2 := hy.ints
    subst z1 z2
    exact .inr ⟨l, m, ns, ms, rfl, rfl, .of (e2 _ _ hs), .of (e2 _ _ hs2), q _ G1 H1 (Step.refl e2) (.bl _)⟩

/-! ### walks -/
theorem i_seqL (h : EvD K te σ G (.lst ds)) : EvI K (iSeq K te) σ G ds.length (nth ds) := fun H e R q => .inl (i_list h H e R q)
theorem i_seqT (h : EvD K te σ G (.tup ds)) : EvI K (iSeq K te) σ G ds.length (nth ds) := fun H e R q => .inr (i_tup h H e R q)
theorem i_seqT' {n : Nat} (hn : ds.length = n) (h : EvD K te σ G (.tup ds)) : EvI K (iSeq K te) σ G n (nth ds) := hn ▸ i_seqT h
theorem i_seqL' {n : Nat} (hn : ds.length = n) (h : EvD K te σ G (.lst ds)) : EvI K (iSeq K te) σ G n (nth ds) := hn ▸ i_seqL h
theorem i_enL (h : EvD K te σ G (.lst ds)) : EvI K (iEn K (tCons te tNil)) σ G ds.length (fun i => .tup [.int i, nth ds i]) := fun H e R q => .inl (i_enum h H e R q)
theorem i_enL' {n : Nat} (hn : ds.length = n) (h : EvD K te σ G (.lst ds)) : EvI K (iEn K (tCons te tNil)) σ G n (fun i => .tup [.int i, nth ds i]) := hn ▸ i_enL h
theorem walkD_enumT {p : Addr} {xs : List V} (h : G p = some (.tup xs)) (r : RpA K G xs ds) : WalkD K (Iet K p) ds.length G (fun i => .tup [.int i, nth ds i]) where
  goes := fun i H hi e => ⟨xs, xs[i]'(by rw [r.len]; exact hi), .of (e _ _ h), by simp [r.len, hi]⟩
  stops := fun H e => ⟨xs, .of (e _ _ h), by rw [r.len]; exact Nat.le_refl _⟩
  yields := fun i G1 H x H' hi e1 e2 y => by
    obtain ⟨T, x, rfl, hT, rfl, y⟩ := y
    have hx := y xs (.of (e2 _ _ (e1 _ _ h)))
    obtain ⟨d, hd, rd⟩ := r.get hx
    exact ⟨_, Step.new e2 hT, .tup upd_same (.cons (.int _) (.cons (by rw [nth_of hd]; exact (rd.ex e1).ex (Ex.new (Step.back e2 hT))) .nil))⟩
theorem i_enT (h : EvD K te σ G (.tup ds)) : EvI K (iEn K (tCons te tNil)) σ G ds.length (fun i => .tup [.int i, nth ds i]) := fun H e R q =>
  .inr (h H e _ fun v G1 H1 s r => by
    obtain ⟨p, xs, rfl, hs, ha⟩ := r.tup_of
    exact ⟨p, xs, rfl, .of (s.i _ _ hs), q _ G1 H1 s (walkD_enumT hs ha)⟩)

theorem i_enT' {n : Nat} (hn : ds.length = n) (h : EvD K te σ G (.tup ds)) : EvI K (iEn K (tCons te tNil)) σ G n (fun i => .tup [.int i, nth ds i]) := hn ▸ i_enT h
/-! ### dicts -/
/-- dict(pairs) -/
theorem RpA.pairs : ∀ {kvs : List (List Key × V)} {vs : List V}, RpA K H vs (kvs.map fun kv => D.tup [.tup (kv.1.map kD), vD kv.2]) → (∀ kv ∈ kvs, scalV kv.2 = true) →
    ∃ (ps : List Addr) (ts : List (List Key × Addr × V)), vs = ps.map V.ref ∧ ts.map (fun t => (t.1, t.2.2)) = kvs ∧ Paired (fun p (t : List Key × Addr × V) => H p = some (.tup [.ref t.2.1, t.2.2]) ∧ H t.2.1 = some (.tup (t.1.map kV))) ps ts
  | [], _, h, _ => by cases h; exact ⟨[], [], rfl, rfl, .nil⟩
  | kv :: kvs, _, h, hs => by
    cases h with
    | cons h1 h2 =>
      obtain ⟨ps, ts, rfl, e2, pr⟩ := RpA.pairs h2 fun q hq => hs q (List.mem_cons_of_mem _ hq)
      obtain ⟨p, xs, rfl, hp, hx⟩ := h1.tup_of
      obtain ⟨v, w, rfl, r1, r2⟩ := hx.two
      obtain ⟨b, ys, rfl, hb, hy⟩ := r1.tup_of
      have z := hy.keys
      subst z
      have hw : w = kv.2 := by
        have h0 := hs kv List.mem_cons_self
        obtain ⟨k, v⟩ := kv
        cases v <;> first | (cases r2; rfl) | cases h0
      subst hw
      exact ⟨p :: ps, (kv.1, b, kv.2) :: ts, rfl, by rw [List.map_cons, e2], .cons ⟨hp, hb⟩ pr⟩
theorem e_dictT {kvs : List (List Key × V)} (ha : EvD K ta σ G (.lst ds)) (hd : ds = kvs.map fun kv => D.tup [.tup (kv.1.map kD), vD kv.2]) (hs : ∀ kv ∈ kvs, scalV kv.2 = true) : EvD K (tCB (rDictT K) (tCons ta tNil)) σ G (.tab (mergeT [] kvs)) :=
  e_cb (a_one ha) fun vs G1 H1 Q e1 e2 r k => by
    subst hd
    obtain ⟨v, rfl, rr⟩ := r.one
    obtain ⟨a, xs, rfl, h1, h2⟩ := rr.lst_of
    obtain ⟨ps, ts, rfl, e3, pr⟩ := (h2.ex e2).pairs hs
    refine ⟨a, ps, ts, rfl, e2 _ _ h1, pr, fun p hp => ?_⟩
    rw [e3]
    exact k _ _ _ (Step.new e2 hp) (.tab upd_same)
/-- sorted(d) of a dict whose keys stand rising -/
theorem f_sortedDT {kvs : List (List Key × V)} {ks : List (Int × Int)} (ha : EvD K ta σ G (.tab kvs)) (hk : kvs.map (·.1) = ks.map pairK) (hs : SrtO.Srtd lexB ks) : EvF K (tCB rSortedDT (tCons ta tNil)) σ G (ks.map fun k => .tup [.int k.1, .int k.2]) := fun H e Q q =>
  a_one ha H e _ fun vs G1 H1 s1 r => by
    obtain ⟨v, rfl, rr⟩ := r.one
    obtain ⟨a, rfl, h1⟩ := rr.tab_of
    refine ⟨a, kvs, ks, rfl, s1.i _ _ h1, hk, fun p zs hp h2 h3 h4 => ?_⟩
    have swo : SrtO.Swo lexB := by
      refine ⟨fun x y h => ?_, fun x y z h1 h2 => ?_⟩
      · have a := SrtO.lexB_iff.mp h
        refine SrtO.lexB_no.mpr ?_
        omega
      · have a := SrtO.lexB_no.mp h1
        have b := SrtO.lexB_no.mp h2
        refine SrtO.lexB_no.mpr ?_
        omega
    have e3 : zs.map (·.2) = ks := SrtO.stb_uniq swo h2 hs h3
    subst e3
    -- the keys' tuples are taken into what stays
    have ex : ∀ (zs : List (Addr × Int × Int)), (∀ z ∈ zs, H1 z.1 = some (.tup [.int z.2.1, .int z.2.2])) → ∀ G2, Ex G2 H1 → ∃ G3, Step G2 H1 G3 H1 ∧ RpA K G3 (zs.map fun z => V.ref z.1) (zs.map fun z => D.tup [.int z.2.1, .int z.2.2]) := by
      intro zs hz
      induction zs with
      | nil => intro G2 e2; exact ⟨G2, Step.refl e2, .nil⟩
      | cons z zs ih =>
        intro G2 e2
        obtain ⟨G3, s3, r3⟩ := ih (fun z hz' => hz z (List.mem_cons_of_mem _ hz')) G2 e2
        have hz0 := hz z List.mem_cons_self
        have s4 := Step.tup s3.i hz0
        exact ⟨_, s3.trans s4, .cons (.tup upd_same (.cons (.int _) (.cons (.int _) .nil))) (r3.ex s4.g)⟩
    obtain ⟨G3, s3, r3⟩ := ex zs h4 G1 s1.i
    have e5 : ((zs.map (·.2)).map fun k => D.tup [.int k.1, .int k.2]) = zs.map fun z => D.tup [.int z.2.1, .int z.2.2] := by rw [List.map_map]; rfl
    rw [e5] at q
    exact q p _ G3 _ ((s1.trans s3).trans (Step.own s3.i hp)) (s1.pre hp) (Step.back s3.i hp) upd_same r3

/-! ### own objects -/
/-- behind a step that took an own object as standing, it is one's own again -/
theorem Step.thaw {p : Addr} {o : HO} {G' H' : Hp} (hp : G p = none) (hx : H p = some o) (s : Step (upd G p o) H G' H') (nc : isCode o = false := by rfl) : ∃ G2, Step G H G2 H' ∧ G2 p = none ∧ H' p = some o ∧ (∀ b u, b ≠ p → G' b = some u → G2 b = some u) ∧ ∀ b, G' b = none → G2 b = none := by
  have gp : G' p = some o := s.g.k p o upd_same (isTbl_code nc)
  have k1 : ∀ b, b ≠ p → (fun b => if b = p then none else G' b) b = G' b := fun b z => if_neg z
  have k2 : (fun b => if b = p then none else G' b) p = none := if_pos rfl
  generalize (fun b => if b = p then none else G' b) = G2 at k1 k2
  have np : ∀ b u, G b = some u → b ≠ p := fun b u hb z => by rw [z, hp] at hb; cases hb
  have n2 : ∀ b u, G2 b = some u → b ≠ p := fun b u hb z => by rw [z, k2] at hb; cases hb
  refine ⟨G2, ⟨⟨fun b u hb t => ?_, fun b ps hb => ?_⟩, ⟨fun b u hb t => ?_, fun b ps hb => ?_⟩, s.h, fun b u h1 h2 h3 => ?_, fun b u h1 h2 h3 => ?_⟩, k2, s.h.k p o hx (isTbl_code nc), fun b u z h => (by rw [k1 b z]; exact h), fun b h => ?_⟩
  · have z := np b u hb
    rw [k1 b z]
    exact s.g.k b u ((upd_ne z).trans hb) t
  · have z := np b _ hb
    obtain ⟨ps', h1, g⟩ := s.g.t b ps ((upd_ne z).trans hb)
    refine ⟨ps', by rw [k1 b z]; exact h1, fun ht => ?_⟩
    obtain ⟨h2, h3⟩ := g ht
    refine ⟨h2, fun pos cv hc => (h3 pos cv hc).elim .inl fun ⟨c, e1, e2⟩ => .inr ⟨c, e1, ?_⟩⟩
    have zc : c ≠ p := fun z => by
      rw [z, gp] at e2
      cases e2
      cases nc
    rw [k1 c zc]
    exact e2
  · have z := n2 b u hb
    rw [k1 b z] at hb
    exact s.i.k b u hb t
  · have z := n2 b _ hb
    rw [k1 b z] at hb
    exact s.i.t b ps hb
  · by_cases z : b = p
    · rw [z]; exact k2
    · rw [k1 b z]; exact s.n b u ((upd_ne z).trans h1) h2 h3
  · have z : b ≠ p := fun z => by rw [z, hx] at h1; cases h1
    rw [k1 b z]
    exact s.c b u h1 h2 h3
  · by_cases z : b = p
    · rw [z]; exact k2
    · rw [k1 b z]; exact h
theorem ex_own {p : Addr} {o : HO} (e : Ex G H) (hx : H p = some o) (nc : isCode o = false := by rfl) : Ex (upd G p o) H := e.take hx nc
theorem rp_own {p : Addr} {o : HO} (hp : G p = none) (r : Rp K G v d) : Rp K (upd G p o) v d := r.ex (Ex.new hp)
theorem Rp.flat_any {G2 : Hp} (r : Rp K G v d) (h : d.flat = true) : Rp K G2 v d := by
  cases r <;> first | exact .non | exact .bl _ | exact .int _ | exact .str _ | cases h
variable {Dn : Ends} {tu tw tz : TS}
theorem s_ifO {p : Addr} {o : HO} (e : Ex G H) (hp : G p = none) (hx : H p = some o) (h : EvB t σ (upd G p o) b) (h1 : b = true → ∀ G1 H1, Step G H G1 H1 → G1 p = none → H1 p = some o → tu Dn σ H1)
    (h2 : b = false → ∀ G1 H1, Step G H G1 H1 → G1 p = none → H1 p = some o → tw Dn σ H1) (nc : isCode o = false := by rfl) : tIfS t tu tw Dn σ H := h H (ex_own e hx nc) _ fun G1 H1 s => by
  obtain ⟨G2, s2, g2, x2, _⟩ := s.thaw hp hx nc
  cases b with
  | true => exact h1 rfl G2 H1 s2 g2 x2
  | false => exact h2 rfl G2 H1 s2 g2 x2
theorem q_ifO {p : Addr} {o : HO} (e : Ex G H) (hp : G p = none) (hx : H p = some o) (h : EvB t σ (upd G p o) b) (h1 : b = true → ∀ G1 H1, Step G H G1 H1 → G1 p = none → H1 p = some o → tu { Dn with nx := tz Dn } σ H1)
    (h2 : b = false → ∀ G1 H1, Step G H G1 H1 → G1 p = none → H1 p = some o → tw { Dn with nx := tz Dn } σ H1) (nc : isCode o = false := by rfl) : tSeq (tIfS t tu tw) tz Dn σ H := s_ifO (Dn := { Dn with nx := tz Dn }) e hp hx h h1 h2 nc
/-- x = e, e reads an own object, its value flat -/
theorem q_asgO {p : Addr} {o : HO} {i : Nat} (e : Ex G H) (hp : G p = none) (hx : H p = some o) (h : EvD K te σ (upd G p o) d) (hf : d.flat = true) (k : ∀ v G1 H1, Step G H G1 H1 → G1 p = none → H1 p = some o → Rp K G1 v d → tz Dn (σ.set i (some v)) H1) (nc : isCode o = false := by rfl) :
    tSeq (tAsg te (gName i)) tz Dn σ H := h H (ex_own e hx nc) _ fun v G1 H1 s r => by
  obtain ⟨G2, s2, g2, x2, _⟩ := s.thaw hp hx nc
  exact k v G2 H1 s2 g2 x2 (r.flat_any hf)
/-- {} -/
theorem q_newT {i : Nat} (e : Ex G H) (k : ∀ p H1, H p = none → G p = none → Step G H G H1 → H1 p = some (.dT []) → tz Dn (σ.set i (some (.ref p))) H1) : tSeq (tAsg tDNewT (gName i)) tz Dn σ H :=
  fun p hp => k p _ hp (Step.back e hp) (Step.own e hp) upd_same
theorem q_newK {i : Nat} (e : Ex G H) (k : ∀ p H1, H p = none → G p = none → Step G H G H1 → H1 p = some (.dK []) → tz Dn (σ.set i (some (.ref p))) H1) : tSeq (tAsg tDNewK (gName i)) tz Dn σ H :=
  fun p hp => k p _ hp (Step.back e hp) (Step.own e hp) upd_same
/-- p[key] = v, p an own dict in slot i -/
theorem s_dputT {i : Nat} {p : Addr} {kvs : List (List Key × V)} {ks : List Key} (e : Ex G H) (hp : G p = none) (hx : H p = some (.dT kvs)) (hi : σ[i]? = some (some (.ref p))) (hv : EvD K te σ G d) (hf : d.flat = true) (hk : EvD K tb σ G d2) (hkd : d2 = .tup (ks.map kD)) (hz : kvs.length < 1000000)
    (k : ∀ G1 H1, Step G H G1 H1 → G1 p = none → Dn.nx σ (upd H1 p (.dT (putK kvs ks d.toV)))) : sDPut (tVar i) tb te Dn σ H :=
  hv H e _ fun v G1 H1 s1 r1 => ⟨_, hi, (hk.mono s1.g) H1 s1.i _ fun y G2 H2 s2 r2 => by
    subst hkd
    obtain ⟨b, xs, rfl, hb, hxs⟩ := r2.tup_of
    have z := hxs.keys
    subst z
    have s := s1.trans s2
    obtain ⟨g2, x2⟩ := s.keep hp hx
    rw [(r1.flat hf).1]
    exact ⟨p, _, rfl, DPut.t x2 (s2.i _ _ hb) (by rw [sizeLine_eq]; omega), k G2 H2 s g2⟩⟩
theorem q_dputT {i : Nat} {p : Addr} {kvs : List (List Key × V)} {ks : List Key} (e : Ex G H) (hp : G p = none) (hx : H p = some (.dT kvs)) (hi : σ[i]? = some (some (.ref p))) (hv : EvD K te σ G d) (hf : d.flat = true) (hk : EvD K tb σ G d2) (hkd : d2 = .tup (ks.map kD)) (hz : kvs.length < 1000000)
    (k : ∀ G1 H1, Step G H G1 H1 → G1 p = none → tz Dn σ (upd H1 p (.dT (putK kvs ks d.toV)))) : tSeq (sDPut (tVar i) tb te) tz Dn σ H := s_dputT (Dn := { Dn with nx := tz Dn }) e hp hx hi hv hf hk hkd hz k

/-! ### comprehensions over typed lists -/
theorem pick_map {α : Type} {xs : List α} {p : α → Bool} {f : α → D} : pick xs.length (fun i => (xs[i]?.map p).getD false) (fun i => (xs[i]?.map f).getD .non) = (xs.filter p).map f := by
  unfold pick
  have h : (List.range xs.length).map (fun i => xs[i]?) = xs.map some := by
    apply List.ext_getElem?
    intro i
    rw [List.getElem?_map, List.getElem?_map]
    by_cases hi : i < xs.length
    · rw [List.getElem?_range hi, List.getElem?_eq_getElem hi]
      show some (xs[i]?) = some (some xs[i])
      rw [List.getElem?_eq_getElem hi]
    · rw [List.getElem?_eq_none (by rw [List.length_range]; omega), List.getElem?_eq_none (by omega)]
      rfl
  have e1 : (fun i => (xs[i]?.map p).getD false) = (fun o : Option α => (o.map p).getD false) ∘ (fun i : Nat => xs[i]?) := rfl
  have e2 : (fun i => (xs[i]?.map f).getD D.non) = (fun o : Option α => (o.map f).getD .non) ∘ (fun i : Nat => xs[i]?) := rfl
  rw [e1, e2, ← List.map_map, ← List.filter_map, h, List.filter_map, List.map_map]
  rfl
theorem at_mapT {α : Type} {xs : List α} {f : α → D} {k : Nat} {x : α} (h : xs[k]? = some x) : D.at (.tup (xs.map f)) (k : Int) = some (f x) := atI_nat (by rw [List.getElem?_map, h]; rfl)
theorem at_mapL {α : Type} {xs : List α} {f : α → D} {k : Nat} {x : α} (h : xs[k]? = some x) : D.at (.lst (xs.map f)) (k : Int) = some (f x) := atI_nat (by rw [List.getElem?_map, h]; rfl)
theorem f_lcm {α : Type} {xs : List α} {tt : TT} {vs : List Nat} (E : Nat → α → List D) (p : α → Bool) (f : α → D) (hi : EvI K wi σ G xs.length Y) (hg : ∀ i x, xs[i]? = some x → EvG K g (Y i) js (E i x)) (hz : xs.length ≤ 1000000)
    (hl : ∀ i x, xs[i]? = some x → (E i x).length = js.length)
    (hw : ∀ us : List V, us.length = js.length → wipe (setAll (wipe σ vs) js us) vs = wipe σ vs)
    (ht : ∀ i x, xs[i]? = some x → ∀ G1, Ex G G1 → ∀ us, RpA K G1 us (E i x) → EvB tt (setAll (wipe σ vs) js us) G1 (p x))
    (he : ∀ i x, xs[i]? = some x → p x = true → ∀ G1, Ex G G1 → ∀ us, RpA K G1 us (E i x) → EvD K te (setAll (wipe σ vs) js us) G1 (f x)) : EvF K (tLc wi g tt te vs) σ G ((xs.filter p).map f) := by
  have hx : ∀ i, i < xs.length → ∃ x, xs[i]? = some x := fun i h => ⟨_, List.getElem?_eq_getElem h⟩
  rw [← pick_map]
  refine f_lc (fun i => (xs[i]?.map (E i)).getD []) _ _ hi (fun i h => ?_) hz (fun i h => ?_) hw (fun i h G1 e us r => ?_) (fun i h hb G1 e us r => ?_)
  · obtain ⟨x, e⟩ := hx i h
    show EvG K g (Y i) js ((xs[i]?.map (E i)).getD [])
    rw [e]
    exact hg i x e
  · obtain ⟨x, e⟩ := hx i h
    show ((xs[i]?.map (E i)).getD []).length = js.length
    rw [e]
    exact hl i x e
  · obtain ⟨x, e1⟩ := hx i h
    have r : RpA K G1 us ((xs[i]?.map (E i)).getD []) := r
    show EvB tt _ G1 ((xs[i]?.map p).getD false)
    rw [e1] at r ⊢
    exact ht i x e1 G1 e us r
  · obtain ⟨x, e1⟩ := hx i h
    have r : RpA K G1 us ((xs[i]?.map (E i)).getD []) := r
    have hb : (xs[i]?.map p).getD false = true := hb
    show EvD K te _ G1 ((xs[i]?.map f).getD .non)
    rw [e1] at r hb ⊢
    exact he i x e1 hb G1 e us r

/-! ### tests whose answer is known -/
theorem b_orF (h1 : EvB t σ G false) (h2 : EvB u σ G false) : EvB (tOr t u) σ G false := b_or h1 fun _ => h2
theorem b_orT (h1 : EvB t σ G true) : EvB (tOr t u) σ G true := (b_or (b := true) h1 fun z => nomatch z).eq rfl
theorem b_andT (h1 : EvB t σ G true) (h2 : EvB u σ G true) : EvB (tAnd t u) σ G true := b_and h1 fun _ => h2
theorem b_andF (h1 : EvB t σ G false) : EvB (tAnd t u) σ G false := (b_and (b := true) h1 fun z => nomatch z).eq rfl
theorem b_notT (h1 : EvB t σ G true) : EvB (tNot t) σ G false := b_not h1
theorem b_notF (h1 : EvB t σ G false) : EvB (tNot t) σ G true := b_not h1
theorem e_chainT {i j k : Int} (ha : EvD K ta σ G (.int i)) (hb : EvD K tb σ G (.int j)) (hc : EvD K tc σ G (.int k)) (h1 : i ≤ j) (h2 : j ≤ k) : EvD K (tChain (rI0 fun i j => .bl (decide (i ≤ j))) (rI0 fun i j => .bl (decide (i ≤ j))) ta tb tc) σ G (.bl true) :=
  (e_chain (a := decide (i ≤ j)) (b := decide (j ≤ k)) ha hb (fun _ => hc) c_le c_le).eq (by rw [decide_eq_true h1, decide_eq_true h2]; rfl)
theorem e_andT (h1 : EvD K ta σ G (.bl true)) (h2 : EvD K tb σ G (.bl true)) : EvD K (tAndV ta tb) σ G (.bl true) := e_and h1 fun _ => h2
theorem EvD.bl (h : EvD K te σ G (.bl a)) (e : a = b) : EvD K te σ G (.bl b) := e ▸ h
theorem EvD.int (h : EvD K te σ G (.int i)) (e : i = j) : EvD K te σ G (.int j) := e ▸ h
/-- s in a table of the module -/
theorem e_ninK {a : Addr} {ds : List V} (ha : EvD K ta σ G d1) (h1 : d1.flat = true) (hs : ∀ H, SqT K H a ds) (h2 : ds.all flatV = true) : EvD K (tOp (rIn K true) ta (tC (.ref a))) σ G (.bl (!inV d1.toV ds)) := fun H e Q q =>
  ha H e _ fun x G1 H1 s1 r1 => by
    obtain ⟨q1, q2⟩ := r1.flat h1
    refine ⟨a, ds, rfl, .inr (hs _), q2, h2, ?_⟩
    subst q1
    exact q _ G1 H1 s1 (.bl _)
theorem e_tup1 (h1 : EvD K ta σ G d1) : EvD K (tTup (tCons ta tNil)) σ G (.tup [d1]) := e_tup (a_one h1) (by show 1 ≤ 100000; decide)
theorem e_tup2 (h1 : EvD K ta σ G d1) (h2 : EvD K tb σ G d2) : EvD K (tTup (tCons ta (tCons tb tNil))) σ G (.tup [d1, d2]) := e_tup (a_cons h1 (a_one h2)) (by show 2 ≤ 100000; decide)
theorem e_tup3 (h1 : EvD K ta σ G d1) (h2 : EvD K tb σ G d2) (h3 : EvD K tc σ G d3) : EvD K (tTup (tCons ta (tCons tb (tCons tc tNil)))) σ G (.tup [d1, d2, d3]) := e_tup (a_cons h1 (a_cons h2 (a_one h3))) (by show 3 ≤ 100000; decide)
theorem q_when (e : Ex G H) (h : EvB t σ G b) (h1 : b = true → ∀ G1 H1, Step G H G1 H1 → tu { Dn with nx := tz Dn } σ H1) (h2 : b = false → ∀ G1 H1, Step G H G1 H1 → tz Dn σ H1) : tSeq (tIfS t tu tNext) tz Dn σ H := q_if e h h1 h2
theorem q_whenO {p : Addr} {o : HO} (e : Ex G H) (hp : G p = none) (hx : H p = some o) (h : EvB t σ (upd G p o) b) (h1 : b = true → ∀ G1 H1, Step G H G1 H1 → G1 p = none → H1 p = some o → tu { Dn with nx := tz Dn } σ H1)
    (h2 : b = false → ∀ G1 H1, Step G H G1 H1 → G1 p = none → H1 p = some o → tz Dn σ H1) (nc : isCode o = false := by rfl) : tSeq (tIfS t tu tNext) tz Dn σ H := q_ifO e hp hx h h1 h2 nc
theorem s_when (e : Ex G H) (h : EvB t σ G b) (h1 : b = true → ∀ G1 H1, Step G H G1 H1 → tu Dn σ H1) (h2 : b = false → ∀ G1 H1, Step G H G1 H1 → Dn.nx σ H1) : tIfS t tu tNext Dn σ H := s_if e h h1 h2
theorem i_rng2' {n : Nat} (h1 : EvD K ta σ G (.int i)) (h2 : EvD K tb σ G (.int j)) (hb : (-1000000 ≤ i ∧ i ≤ 1000000) ∧ -1000000 ≤ j ∧ j ≤ 1000000) (hn : (j - i).toNat = n) : EvI K (iRng2 (tCons ta (tCons tb tNil))) σ G n (fun k => .int (i + k)) := hn ▸ i_rng2 h1 h2 hb
theorem i_rng1' {n : Nat} (h : EvD K te σ G (.int n)) (hb : n ≤ 1000000) : EvI K (iRng1 (tCons te tNil)) σ G n (fun k => .int k) := i_rng1 h (by omega)
theorem q_newL {i : Nat} (e : Ex G H) (k : ∀ p H1, H p = none → G p = none → Step G H G H1 → H1 p = some (.lst []) → tz Dn (σ.set i (some (.ref p))) H1) : tSeq (tAsg (tLst tNil) (gName i)) tz Dn σ H :=
  ⟨Nat.zero_le _, fun p hp => k p _ hp (Step.back e hp) (Step.own e hp) upd_same⟩
theorem q_asgC {i : Nat} (k : tz Dn (σ.set i (some v)) H) : tSeq (tAsg (tC v) (gName i)) tz Dn σ H := k
end
end J

/-! Draws: an own list of ints that is drawn from. -/
namespace J
open PySem L2 Evl
structure DOk (ms : List Int) : Prop where
  ex : ∃ a b rest, ms = a :: b :: rest ∧ (0 ≤ a ∧ a < 2147483647) ∧ 0 ≤ b ∧ (∀ x ∈ rest, 0 ≤ x) ∧ rest.length ≤ 63
def Dice (p : Addr) (H : Hp) : Prop := ∃ ms, H p = some (.lst (ms.map V.int)) ∧ DOk ms
def hide (p : Addr) (H : Hp) : Hp := fun b => if b = p then none else H b
theorem hide_p {p : Addr} {H : Hp} : hide p H p = none := if_pos rfl
theorem hide_ne {p b : Addr} {H : Hp} (h : b ≠ p) : hide p H b = H b := if_neg h
theorem hide_of {p b : Addr} {H : Hp} {o : HO} (h : hide p H b = some o) : b ≠ p ∧ H b = some o := by
  have z : b ≠ p := fun z => by rw [z, hide_p] at h; cases h
  rw [hide_ne z] at h
  exact ⟨z, h⟩
theorem ex_hide [Tbs] {p : Addr} {G H : Hp} (e : Ex G H) (g : G p = none) (d : Dice p H) : Ex G (hide p H) := by
  obtain ⟨ms, hm, _⟩ := d
  have np : ∀ b u, G b = some u → b ≠ p := fun b u hb z => by rw [z, g] at hb; cases hb
  refine ⟨fun b o hb t => ?_, fun b ps hb => ?_⟩
  · rw [hide_ne (np b o hb)]
    exact e.k b o hb t
  · obtain ⟨ps', h1, gr⟩ := e.t b ps hb
    refine ⟨ps', by rw [hide_ne (np b _ hb)]; exact h1, fun ht => ?_⟩
    obtain ⟨h2, h3⟩ := gr ht
    refine ⟨h2, fun pos cv hc => (h3 pos cv hc).elim .inl fun ⟨c, e1, e2⟩ => .inr ⟨c, e1, ?_⟩⟩
    rw [hide_ne (fun z => by rw [z, hm] at e2; cases e2)]
    exact e2
theorem hide_ex [Tbs] {p : Addr} {H : Hp} : Ex (hide p H) H := .of fun b o hb => (hide_of hb).2
theorem hide_hide [Tbs] {p : Addr} {H H1 : Hp} (e : Ex (hide p H) H1) (d : Dice p H1) : Ex (hide p H) (hide p H1) := ex_hide e hide_p d
section
variable [Tbs] {K : PySem.W.Frag} {σ : L2.St} {p : Addr} {G G1 G2 H H1 H2 : Hp} {ta tb te tx : TE} {t u : TT} {x y z v : V} {d d1 d2 d3 : D} {ds es : List D} {as bs : TA} {i j k m : Int} {a b c : Bool} {n : Nat}
theorem Dice.nocode (d : Dice p H) {o : HO} (h : H p = some o) : isCode o = false := by
  obtain ⟨ms, hm, _⟩ := d
  rw [hm] at h
  cases h
  rfl
theorem Step.start (e : Ex G H) (g : G p = none) (d : Dice p H) : Step G (hide p H) G H := ⟨Ex.refl _, e, hide_ex, fun _ _ h _ _ => h, fun b o h1 h2 h3 => by
  by_cases z : b = p
  · subst z
    rw [d.nocode h2] at h3
    cases h3
  · rw [hide_ne z, h2] at h1
    cases h1⟩
theorem Step.transR (a : Step G (hide p H) G1 H1) (b : Step G1 (hide p H1) G2 H2) (d : Dice p H1) : Step G (hide p H) G2 H2 := by
  refine ⟨a.g.trans b.g, b.i, (hide_hide a.h d).trans b.h, fun x o h1 h2 h3 => ?_, fun x o h1 h2 h3 => ?_⟩
  · obtain ⟨z, h2'⟩ := hide_of h2
    cases o with
    | tbl ps =>
      obtain ⟨ps', h', _⟩ := a.h.t x ps h2
      exact b.n x _ (a.n x _ h1 h2 h3) ((hide_ne z).trans h') rfl
    | _ => exact b.n x _ (a.n x _ h1 h2 h3) ((hide_ne z).trans (a.h.k x _ h2 rfl)) h3
  · cases z : hide p H1 x with
    | none => exact b.c x o z h2 h3
    | some u =>
      obtain ⟨n, z⟩ := hide_of z
      have hu : isCode u = true := by
        cases u with
        | tbl _ => rfl
        | ext _ => rfl
        | _ =>
          have h' := b.h.k x _ ((hide_ne n).trans z) rfl
          rw [h2] at h'
          cases h'
          exact h3
      have h' := a.c x u h1 z hu
      intro z2
      exact h' (fresh_back b.g z2)
/-- a plain step, seen beside the draws -/
theorem Step.toR (s : Step G H G1 H1) (g : G p = none) (d : Dice p H) : Step G (hide p H) G1 H1 ∧ G1 p = none ∧ Dice p H1 := by
  have d0 := d
  obtain ⟨ms, hm, ok⟩ := d
  obtain ⟨g1, h1⟩ := s.keep g hm
  have d1 : Dice p H1 := ⟨ms, h1, ok⟩
  refine ⟨⟨s.g, s.i, hide_ex.trans s.h, fun x o h1 h2 h3 => s.n x o h1 (hide_of h2).2 h3, fun x o h1 h2 h3 => ?_⟩, g1, d1⟩
  by_cases z : x = p
  · subst z
    rw [d1.nocode h2] at h3
    cases h3
  · rw [hide_ne z] at h1
    exact s.c x o h1 h2 h3
theorem Dice.step (d : Dice p H) (s : Step G H G1 H1) (g : G p = none) : G1 p = none ∧ Dice p H1 := (s.toR g d).2
theorem Dice.mut {q : Addr} {o : HO} (d : Dice p H) (h : q ≠ p) : Dice p (upd H q o) := let ⟨ms, hm, ok⟩ := d; ⟨ms, (upd_ne (Ne.symm h)).trans hm, ok⟩
theorem Dice.some (d : Dice p H) : ∃ xs, H p = some (.lst xs) := let ⟨_, hm, _⟩ := d; ⟨_, hm⟩
def EvR (K : PySem.W.Frag) (p : Addr) (te : TE) (σ : L2.St) (G : Hp) (R : D → Prop) : Prop := ∀ H, Ex G H → G p = none → Dice p H → ∀ Q : VK, (∀ v d G' H', Step G (hide p H) G' H' → G' p = none → Dice p H' → R d → Rp K G' v d → Q v H') → te σ H Q
def EvRs (K : PySem.W.Frag) (p : Addr) (ta : TA) (σ : L2.St) (G : Hp) (R : List D → Prop) : Prop := ∀ H, Ex G H → G p = none → Dice p H → ∀ Q : List V → Hp → Prop, (∀ vs ds G' H', Step G (hide p H) G' H' → G' p = none → Dice p H' → R ds → RpA K G' vs ds → Q vs H') → ta σ H Q
variable {R RA RB : D → Prop} {Rs Rs1 : List D → Prop}
theorem EvR.mono (e : Ex G G1) (h : EvR K p te σ G R) : EvR K p te σ G1 R := fun H a g dc Q q => by
  have g0 : G p = none := fresh_back e g
  refine h H (e.trans a) g0 dc Q fun v d G' H' s g' dc' r rp => ?_
  obtain ⟨G2, s2, e2, n2⟩ := s.widen e (ex_hide a g dc)
  exact q v d G2 H' s2 (n2 p hide_p g') dc' r (rp.exk e2)
theorem EvRs.mono (e : Ex G G1) (h : EvRs K p as σ G Rs) : EvRs K p as σ G1 Rs := fun H a g dc Q q => by
  have g0 : G p = none := fresh_back e g
  refine h H (e.trans a) g0 dc Q fun v d G' H' s g' dc' r rp => ?_
  obtain ⟨G2, s2, e2, n2⟩ := s.widen e (ex_hide a g dc)
  exact q v d G2 H' s2 (n2 p hide_p g') dc' r (rp.exk e2)
theorem EvR.imp (h : EvR K p te σ G RA) (i : ∀ d, RA d → R d) : EvR K p te σ G R := fun H a g dc Q q => h H a g dc Q fun v d G' H' s g' dc' r rp => q v d G' H' s g' dc' (i d r) rp
theorem r_of (h : EvD K te σ G d) (hr : R d) : EvR K p te σ G R := fun H e g dc Q q => h H e Q fun v G' H' s r => by
  obtain ⟨s1, g1, d1⟩ := s.toR g dc
  exact q v d G' H' s1 g1 d1 hr r
theorem rs_nil (h : Rs []) : EvRs K p tNil σ G Rs := fun H e g dc Q q => q [] [] G H (Step.start e g dc) g dc h .nil
theorem rs_cons (h1 : EvR K p te σ G RA) (h2 : EvRs K p as σ G Rs1) (hr : ∀ d ds, RA d → Rs1 ds → Rs (d :: ds)) : EvRs K p (tCons te as) σ G Rs := fun H e g dc Q q =>
  h1 H e g dc _ fun v d G1 H1 s1 g1 d1 r1 rp1 => (h2.mono s1.g) H1 s1.i g1 d1 _ fun vs ds G2 H2 s2 g2 d2 r2 rp2 => q (v :: vs) (d :: ds) G2 H2 (s1.transR s2 d1) g2 d2 (hr d ds r1 r2) (.cons (rp1.ex s2.g) rp2)
theorem rs_one (h1 : EvR K p te σ G RA) (hr : ∀ d, RA d → Rs [d]) : EvRs K p (tCons te tNil) σ G Rs := rs_cons h1 (rs_nil (Rs := fun ds => ds = []) rfl) fun d ds h z => by subst z; exact hr d h
/-- two values, an operation -/
theorem r_op {r : R2} (ha : EvR K p ta σ G RA) (hb : EvR K p tb σ G RB) (hr : ∀ x y d1 d2 G1 H1 Q, Ex G G1 → Ex G1 H1 → RA d1 → RB d2 → Rp K G1 x d1 → Rp K G1 y d2 → (∀ v d, R d → Rp K G1 v d → Q v H1) → r x y H1 Q) : EvR K p (tOp r ta tb) σ G R := fun H e g dc Q q =>
  ha H e g dc _ fun x d1 G1 H1 s1 g1 dc1 r1 rp1 => (hb.mono s1.g) H1 s1.i g1 dc1 _ fun y d2 G2 H2 s2 g2 dc2 r2 rp2 => hr x y d1 d2 G2 H2 Q (s1.g.trans s2.g) s2.i r1 r2 (rp1.ex s2.g) rp2 fun v d rd rpd => q v d G2 H2 (s1.transR s2 dc1) g2 dc2 rd rpd
/-- a number below n -/
def Lt (n : Nat) (d : D) : Prop := ∃ r : Nat, d = .int r ∧ r < n
/-- a number within bounds -/
def Btw (lo hi : Nat) (d : D) : Prop := ∃ r : Nat, d = .int r ∧ lo ≤ r ∧ r ≤ hi
theorem r_add {a b c e : Nat} (ha : EvR K p ta σ G (Btw a b)) (hb : EvR K p tb σ G (Btw c e)) : EvR K p (tOp (rAddA K) ta tb) σ G (Btw (a + c) (b + e)) :=
  r_op ha hb fun x y d1 d2 G1 H1 Q e1 e2 r1 r2 rp1 rp2 q => by
    obtain ⟨i, rfl, h1, h2⟩ := r1
    obtain ⟨j, rfl, h3, h4⟩ := r2
    exact .inl ⟨i, j, rp1.int_of, rp2.int_of, q _ (.int ((i + j : Nat) : Int)) ⟨i + j, rfl, by omega, by omega⟩ (.int _)⟩
theorem r_n {n : Nat} (h : EvD K te σ G (.int n)) : EvR K p te σ G (Btw n n) := r_of h ⟨n, rfl, Nat.le_refl _, Nat.le_refl _⟩
/-- one of a list that is written out -/
theorem r_pick (ha : EvRs K p as σ G fun ds => ds.length = n ∧ ∀ d ∈ ds, R d) (hb : EvR K p tb σ G (Lt n)) (hn : n ≤ 1000) : EvR K p (tOp (rIx K) (tLst as) tb) σ G R := fun H e g dc Q q =>
  ha H e g dc _ fun vs ds G1 H1 s1 g1 d1 ⟨hl, hr⟩ rp1 => by
    refine ⟨by rw [rp1.len, hl, sizeLine_eq]; omega, fun l hl' => ?_⟩
    have sN := Step.new (o := .lst vs) s1.i hl'
    obtain ⟨sR, gR, d2⟩ := sN.toR g1 d1
    refine (hb.mono (s1.g.trans sN.g)) (upd H1 l (.lst vs)) sN.i gR d2 _ fun y d2' G2 H2 s3 g2 d3 r2 rp2 => ?_
    obtain ⟨i, rfl, hi⟩ := r2
    have hx := s3.g l _ upd_same
    obtain ⟨dd, hdd⟩ : ∃ dd, ds[i]? = some dd := ⟨ds[i]'(by omega), List.getElem?_eq_getElem _⟩
    obtain ⟨v, hv, rv⟩ := rp1.at hdd
    have rv2 : Rp K G2 v dd := rv.ex (sN.g.trans s3.g)
    exact .inl ⟨l, vs, (i : Int), v, rfl, rp2.int_of, .of (s3.i _ _ hx), atI_nat hv, q v dd G2 H2 ((s1.transR sR d1).transR s3 d2) g2 d3 (hr dd (List.mem_of_getElem? hdd)) rv2⟩
/-! ### defs that draw -/
def spR (K : PySem.W.Frag) (Pre : List D → Prop) (R : List D → D → Prop) : Sp := fun vs H Q _ => ∃ p ws G ds, vs = .ref p :: ws ∧ Ex G H ∧ G p = none ∧ Dice p H ∧ RpA K G ws ds ∧ Pre ds ∧
  ∀ v d G' H', Step G (hide p H) G' H' → G' p = none → Dice p H' → R ds d → Rp K G' v d → Q v H'
theorem r_call {Pre : List D → Prop} {RR : List D → D → Prop} {E : XK} {i : Nat} (hi : σ[i]? = some (some (.ref p))) (h : EvRs K p as σ G fun ds => Pre ds ∧ ∀ d, RR ds d → R d) : EvR K p (tCall (spR K Pre RR) [] E (tCons (tVar i) as)) σ G R := fun H e g dc Q q =>
  ⟨_, hi, h H e g dc _ fun vs ds G1 H1 s1 g1 d1 r1 rp1 => ⟨p, vs, G1, ds, by rw [List.append_nil], s1.i, g1, d1, rp1, r1.1, fun v d G2 H2 s2 g2 d2 r2 rp2 => q v d G2 H2 (s1.transR s2 d1) g2 d2 (r1.2 d r2) rp2⟩⟩
theorem r_call1 {Pre : List D → Prop} {RR : List D → D → Prop} {E : XK} {i : Nat} (hi : σ[i]? = some (some (.ref p))) (h : EvAs K as σ G ds) (hp : Pre ds) : EvR K p (tCall (spR K Pre RR) [] E (tCons (tVar i) as)) σ G (RR ds) := fun H e g dc Q q =>
  ⟨_, hi, h H e _ fun vs G1 H1 s rp1 => by
    obtain ⟨s1, g1, d1⟩ := s.toR g dc
    exact ⟨p, vs, G1, ds, by rw [List.append_nil], s1.i, g1, d1, rp1, hp, fun v d G2 H2 s2 g2 d2 r2 rp2 => q v d G2 H2 (s1.transR s2 d1) g2 d2 r2 rp2⟩⟩
theorem r_tup (h : EvRs K p as σ G fun ds => ds.length ≤ 1000 ∧ R (.tup ds)) : EvR K p (tTup as) σ G R := fun H e g dc Q q =>
  h H e g dc _ fun vs ds G1 H1 s1 g1 d1 r1 rp1 => ⟨by rw [rp1.len, sizeLine_eq]; have := r1.1; omega, fun l hl => by
    have sN := Step.new (o := .tup vs) s1.i hl
    obtain ⟨sR, gR, d2⟩ := sN.toR g1 d1
    exact q _ (.tup ds) _ _ (s1.transR sR d1) gR d2 r1.2 (.tup upd_same (rp1.ex sN.g))⟩
variable {Dn : Ends} {tu tw tz : TS}
theorem qr_asg {i : Nat} (e : Ex G H) (g : G p = none) (dc : Dice p H) (h : EvR K p te σ G R) (k : ∀ v d G1 H1, Step G (hide p H) G1 H1 → G1 p = none → Dice p H1 → R d → Rp K G1 v d → tz Dn (σ.set i (some v)) H1) : tSeq (tAsg te (gName i)) tz Dn σ H := h H e g dc _ fun v d G1 H1 s g1 d1 r rp => k v d G1 H1 s g1 d1 r rp
theorem sr_ret (e : Ex G H) (g : G p = none) (dc : Dice p H) (h : EvR K p te σ G R) (k : ∀ v d G1 H1, Step G (hide p H) G1 H1 → G1 p = none → Dice p H1 → R d → Rp K G1 v d → Dn.rt v H1) : tRet te Dn σ H := h H e g dc _ k
/-- p[j] = e, p an own list in slot i, e may read it -/
theorem s_setO {i j : Nat} {xs : List V} (e : Ex G H) (hp : G p = none) (hx : H p = some (.lst xs)) (hi : σ[i]? = some (some (.ref p))) (h : EvD K te σ (upd G p (.lst xs)) d) (hf : d.flat = true) (hj : j < xs.length)
    (k : ∀ G1 H1, Step G H G1 H1 → G1 p = none → Dn.nx σ (upd H1 p (.lst (xs.set j d.toV)))) : tAsg te (gSub (tVar i) (tC (.int j)) rSetL) Dn σ H :=
  h H (ex_own e hx) _ fun v G1 H1 s r => by
    obtain ⟨G2, s2, g2, x2, _⟩ := s.thaw hp hx
    rw [(r.flat hf).1]
    exact ⟨_, hi, p, xs, (j : Int), j, rfl, rfl, x2, Evl.ixN_nat hj, k G2 H1 s2 g2⟩
theorem q_setO {i j : Nat} {xs : List V} (e : Ex G H) (hp : G p = none) (hx : H p = some (.lst xs)) (hi : σ[i]? = some (some (.ref p))) (h : EvD K te σ (upd G p (.lst xs)) d) (hf : d.flat = true) (hj : j < xs.length)
    (k : ∀ G1 H1, Step G H G1 H1 → G1 p = none → tz Dn σ (upd H1 p (.lst (xs.set j d.toV)))) : tSeq (tAsg te (gSub (tVar i) (tC (.int j)) rSetL)) tz Dn σ H := s_setO (Dn := { Dn with nx := tz Dn }) e hp hx hi h hf hj k
theorem s_retO {o : HO} (e : Ex G H) (hp : G p = none) (hx : H p = some o) (h : EvD K te σ (upd G p o) d) (hf : d.flat = true) (k : ∀ v G1 H1, Step G H G1 H1 → G1 p = none → H1 p = some o → Rp K G1 v d → Dn.rt v H1) (nc : isCode o = false := by rfl) : tRet te Dn σ H := h H (ex_own e hx nc) _ fun v G1 H1 s r => by
  obtain ⟨G2, s2, g2, x2, _⟩ := s.thaw hp hx nc
  exact k v G2 H1 s2 g2 x2 (r.flat_any hf)
/-- the ints of the script -/
theorem i_script {i : Nat} {q : Addr} {ns : List Int} (hi : σ[i]? = some (some (.ref q))) (hs : SqL K G q (ns.map V.int)) : EvI K (iSeq K (tVar i)) σ G ns.length (nth (ns.map D.int)) := fun H e R k =>
  .inl ⟨_, hi, q, rfl, ⟨_, ex_l e hs⟩, k _ G H (Step.refl e)
    { goes := fun i H hi e => ⟨ns.map V.int, (ns.map V.int)[i]'(by rw [List.length_map]; exact hi), ex_l e hs, by simp [hi]⟩
      stops := fun H e => ⟨ns.map V.int, ex_l e hs, by rw [List.length_map]; exact Nat.le_refl _⟩
      yields := fun i G1 H x H' hi e1 e2 y => by
        obtain ⟨rfl, y⟩ := y
        have hx := y _ (ex_l e2 (ex_l e1 hs))
        rw [List.getElem?_map, List.getElem?_eq_getElem hi] at hx
        have hx' : V.int ns[i] = x := Option.some.inj hx
        subst hx'
        exact ⟨G1, Step.refl e2, by rw [nth_map (List.getElem?_eq_getElem hi)]; exact .int _⟩ }⟩
end
end J

/-! Loops that draw; new lists by draws. -/
namespace J
open PySem L2 Evl
/-- a step beside the draws -/
structure Sd [Tbs] (p : Addr) (G H G' H' : Hp) : Prop where
  s : Step G (hide p H) G' H'
  g : G' p = none
  d : Dice p H'
section
variable [Tbs] {K : PySem.W.Frag} {σ : L2.St} {p : Addr} {G G0 H0 G1 G2 H H1 H2 : Hp} {ta tb te tx : TE} {t u : TT} {x y z v : V} {d d1 d2 d3 : D} {ds es : List D} {as bs : TA} {j k m : Int} {a b c : Bool} {n : Nat} {Y : Nat → D} {wi : TI} {g : TG} {js : List Nat}
variable {R RA RB : D → Prop} {Rs Rs1 : List D → Prop} {Dn : Ends} {tu tw tz : TS}
theorem Sd.trans (a : Sd p G0 H0 G H) (b : Sd p G H G1 H1) : Sd p G0 H0 G1 H1 := ⟨a.s.transR b.s a.d, b.g, b.d⟩
theorem Sd.then (a : Sd p G0 H0 G H) (b : Step G H G1 H1) : Sd p G0 H0 G1 H1 := let ⟨s1, g1, d1⟩ := b.toR a.g a.d; ⟨a.s.transR s1 a.d, g1, d1⟩
theorem Sd.refl (e : Ex G H) (g : G p = none) (d : Dice p H) : Sd p G H G H := ⟨Step.start e g d, g, d⟩
theorem Sd.keep {q : Addr} {o : HO} (s : Sd p G H G1 H1) (n : q ≠ p) (g : G q = none) (x : H q = some o) (t : isTup o = false := by rfl) (tt : isTbl o = false := by rfl) : G1 q = none ∧ H1 q = some o := s.s.keep g ((hide_ne n).trans x) t tt
theorem Sd.ii (s : Sd p G H G1 H1) : Ex G1 H1 := s.s.i
theorem Sd.gg (s : Sd p G H G1 H1) : Ex G G1 := s.s.g
theorem Sd.pre {q : Addr} (s : Sd p G H G1 H1) (h : H1 q = none) (n : q ≠ p) : H q = none := by
  have h' := fresh_back s.s.h h
  rwa [hide_ne n] at h'
theorem Sd.mut {q : Addr} {o : HO} (s : Sd p G H G1 H1) (n : q ≠ p) (h : H q = none) (g : G1 q = none) (nc : isCode o = false := by rfl) : Sd p G H G1 (upd H1 q o) :=
  ⟨s.s.mut ((hide_ne n).trans h) g nc, s.g, s.d.mut n⟩
theorem Dice.ne {q : Addr} (d : Dice p H) (h : H q = none) : q ≠ p := fun z => by
  obtain ⟨xs, hx⟩ := d.some
  rw [z, hx] at h
  cases h
/-- an own object beside the draws -/
theorem Sd.own {q : Addr} {o : HO} (s : Sd p G0 H0 G H) (h : H q = none) (nc : isCode o = false := by rfl) : Sd p G0 H0 G (upd H q o) := s.then (Step.own s.s.i h nc)
theorem Step.thawR {q : Addr} {o : HO} {G' H' : Hp} (n : q ≠ p) (hq : G q = none) (hx : H q = some o) (s : Step (upd G q o) (hide p H) G' H') (nc : isCode o = false := by rfl) : ∃ G2, Step G (hide p H) G2 H' ∧ G2 q = none ∧ H' q = some o ∧ (∀ b u, b ≠ q → G' b = some u → G2 b = some u) ∧ ∀ b, G' b = none → G2 b = none := s.thaw hq ((hide_ne n).trans hx) nc
/-- what is drawn while an own object is read -/
theorem EvR.own {q : Addr} {o : HO} (h : EvR K p te σ (upd G q o) R) (hf : ∀ d, R d → d.flat = true) (n : q ≠ p) (e : Ex G H) (gq : G q = none) (xq : H q = some o) (gp : G p = none) (dc : Dice p H) (Q : VK)
    (k : ∀ v d G1 H1, Sd p G H G1 H1 → G1 q = none → H1 q = some o → R d → Rp K G1 v d → Q v H1) (nc : isCode o = false := by rfl) : te σ H Q :=
  h H (ex_own e xq nc) (by rw [upd_ne (Ne.symm n)]; exact gp) dc Q fun v d G1 H1 s g1 d1 r rp => by
    obtain ⟨G2, s2, g2, x2, _, c2⟩ := s.thawR n gq xq nc
    exact k v d G2 H1 ⟨s2, c2 p g1, d1⟩ g2 x2 r (rp.flat_any (hf d r))
/-! ### new lists -/
def EvRF (K : PySem.W.Frag) (p : Addr) (te : TE) (σ : L2.St) (G : Hp) (R : List D → Prop) : Prop := ∀ H, Ex G H → G p = none → Dice p H → ∀ Q : VK, (∀ q xs ds G' H', Sd p G H G' H' → H q = none → G' q = none → H' q = some (.lst xs) → R ds → RpA K G' xs ds → Q (.ref q) H') → te σ H Q
theorem EvRF.toR (h : EvRF K p te σ G Rs) (i : ∀ ds, Rs ds → R (.lst ds)) : EvR K p te σ G R := fun H e g dc Q q => h H e g dc Q fun r xs ds G1 H1 s h1 h2 h3 rd rp => by
  have n : r ≠ p := dc.ne h1
  exact q _ (.lst ds) _ H1 (s.s.freeze ((hide_ne n).trans h1) h2 h3) (by rw [upd_ne (Ne.symm n)]; exact s.g) s.d (i ds rd) (.lst upd_same (rp.ex (Ex.new h2)))
theorem EvRF.imp (h : EvRF K p te σ G Rs) (i : ∀ ds, Rs ds → Rs1 ds) : EvRF K p te σ G Rs1 := fun H e g dc Q q => h H e g dc Q fun r xs ds G1 H1 s h1 h2 h3 rd rp => q r xs ds G1 H1 s h1 h2 h3 (i ds rd) rp
def spRF (K : PySem.W.Frag) (Pre : List D → Prop) (R : List D → List D → Prop) : Sp := fun vs H Q _ => ∃ p ws G ds, vs = .ref p :: ws ∧ Ex G H ∧ G p = none ∧ Dice p H ∧ RpA K G ws ds ∧ Pre ds ∧
  ∀ q xs es G' H', Sd p G H G' H' → H q = none → G' q = none → H' q = some (.lst xs) → R ds es → RpA K G' xs es → Q (.ref q) H'
theorem rf_call {Pre : List D → Prop} {RR : List D → List D → Prop} {E : XK} {i : Nat} (hi : σ[i]? = some (some (.ref p))) (h : EvRs K p as σ G fun ds => Pre ds ∧ ∀ d, RR ds d → Rs d) : EvRF K p (tCall (spRF K Pre RR) [] E (tCons (tVar i) as)) σ G Rs := fun H e g dc Q q =>
  ⟨_, hi, h H e g dc _ fun vs ds G1 H1 s1 g1 d1 r1 rp1 => ⟨p, vs, G1, ds, by rw [List.append_nil], s1.i, g1, d1, rp1, r1.1, fun r xs es G2 H2 s2 h1 h2 h3 r2 rp2 => by
    have S : Sd p G H G1 H1 := ⟨s1, g1, d1⟩
    exact q r xs es G2 H2 (S.trans s2) (S.pre h1 (d1.ne h1)) h2 h3 (r1.2 es r2) rp2⟩⟩
theorem rs_of (h : EvAs K as σ G ds) (hp : Rs ds) : EvRs K p as σ G Rs := fun H e g dc Q q => h H e _ fun vs G1 H1 s r => by
  obtain ⟨s1, g1, d1⟩ := s.toR g dc
  exact q vs ds G1 H1 s1 g1 d1 hp r
theorem rf_call1 {Pre : List D → Prop} {RR : List D → List D → Prop} {E : XK} {i : Nat} (hi : σ[i]? = some (some (.ref p))) (h : EvAs K as σ G ds) (hp : Pre ds) : EvRF K p (tCall (spRF K Pre RR) [] E (tCons (tVar i) as)) σ G (RR ds) :=
  rf_call hi (rs_of h ⟨hp, fun _ h => h⟩)
/-! ### tests -/
def EvBR (K : PySem.W.Frag) (p : Addr) (tt : TT) (σ : L2.St) (G : Hp) : Prop := ∀ H, Ex G H → G p = none → Dice p H → ∀ Q : Bool → Hp → Prop, (∀ b G' H', Sd p G H G' H' → Q b H') → tt σ H Q
def IsBl (d : D) : Prop := ∃ b, d = .bl b
theorem br_test (h : EvR K p te σ G IsBl) : EvBR K p (tTest te) σ G := fun H e g dc Q q => h H e g dc _ fun v d G1 H1 s1 g1 d1 ⟨b, hb⟩ rp => ⟨b, by subst hb; exact rp.bl_of, q b G1 H1 ⟨s1, g1, d1⟩⟩
theorem br_B (h : EvR K p te σ G IsBl) : EvBR K p (tB te) σ G := fun H e g dc Q q => h H e g dc _ fun v d G1 H1 s1 g1 d1 ⟨b, hb⟩ rp => ⟨b, by subst hb; exact rp.bl_of, q b G1 H1 ⟨s1, g1, d1⟩⟩
theorem br_of (h : EvB t σ G b) : EvBR K p t σ G := fun H e g dc Q q => h H e _ fun G1 H1 s => q b G1 H1 ((Sd.refl e g dc).then s)
theorem r_cmp {f : Int → Int → Bool} {a1 b1 a2 b2 : Nat} (ha : EvR K p ta σ G (Btw a1 b1)) (hb : EvR K p tb σ G (Btw a2 b2)) : EvR K p (tOp (rI0 fun i j => .bl (f i j)) ta tb) σ G IsBl :=
  r_op ha hb fun x y d1 d2 G1 H1 Q e1 e2 r1 r2 rp1 rp2 q => by
    obtain ⟨i, rfl, _⟩ := r1
    obtain ⟨j, rfl, _⟩ := r2
    exact ⟨i, j, rp1.int_of, rp2.int_of, q _ (.bl (f i j)) ⟨_, rfl⟩ (.bl _)⟩
theorem r_lt (h : EvR K p te σ G (Lt n)) : EvR K p te σ G (Btw 0 (n - 1)) := h.imp fun d ⟨r, h1, h2⟩ => ⟨r, h1, Nat.zero_le _, by omega⟩
/-! ### for, while -/
/-- a range whose end is drawn -/
theorem s_rngR {lo hi : Nat} (hb : hi ≤ 1000000) (e : Ex G H) (gp : G p = none) (dc : Dice p H) (h : EvR K p te σ G (Btw lo hi)) (k : ∀ r G1 H1, lo ≤ r → r ≤ hi → Sd p G H G1 H1 → tFor (iRng1 (tCons (tC (.int (r : Nat))) tNil)) g tu Dn σ H1) : tFor (iRng1 (tCons te tNil)) g tu Dn σ H :=
  h H e gp dc _ fun v d G1 H1 s1 g1 d1 rd rp => by
    obtain ⟨r, rfl, h1, h2⟩ := rd
    have z := rp.int_of
    subst z
    exact k r G1 H1 h1 h2 ⟨s1, g1, d1⟩
theorem q_rngR {lo hi : Nat} (hb : hi ≤ 1000000) (e : Ex G H) (gp : G p = none) (dc : Dice p H) (h : EvR K p te σ G (Btw lo hi)) (k : ∀ r G1 H1, lo ≤ r → r ≤ hi → Sd p G H G1 H1 → tSeq (tFor (iRng1 (tCons (tC (.int (r : Nat))) tNil)) g tu) tz Dn σ H1) : tSeq (tFor (iRng1 (tCons te tNil)) g tu) tz Dn σ H :=
  s_rngR (Dn := { Dn with nx := tz Dn }) hb e gp dc h k
theorem s_while (S : Step G0 H0 G H) (Pv : Nat → L2.St → Hp → Hp → Prop) (m0 : Nat) (h0 : Pv m0 σ G H)
    (hs : ∀ m σ' G' H', Step G0 H0 G' H' → Ex G G' → Pv m σ' G' H' → t σ' H' fun b H1 => if b = true then
      ∃ N : L2.St → Hp → Prop, (∀ σ2 H3, N σ2 H3 → ∃ m', m' < m ∧ ∃ G3, Step G0 H0 G3 H3 ∧ Ex G G3 ∧ Pv m' σ2 G3 H3) ∧ tu { Dn with nx := N, ct := N, bk := Dn.nx } σ' H1 else Dn.nx σ' H1) : tWhile t tu Dn σ H :=
  ⟨fun m σ' H' => ∃ G', Step G0 H0 G' H' ∧ Ex G G' ∧ Pv m σ' G' H', ⟨m0, G, S, Ex.refl _, h0⟩, fun m σ' H' ⟨G', S', e', p'⟩ => hs m σ' G' H' S' e' p'⟩
theorem q_while (S : Step G0 H0 G H) (Pv : Nat → L2.St → Hp → Hp → Prop) (m0 : Nat) (h0 : Pv m0 σ G H)
    (hs : ∀ m σ' G' H', Step G0 H0 G' H' → Ex G G' → Pv m σ' G' H' → t σ' H' fun b H1 => if b = true then
      ∃ N : L2.St → Hp → Prop, (∀ σ2 H3, N σ2 H3 → ∃ m', m' < m ∧ ∃ G3, Step G0 H0 G3 H3 ∧ Ex G G3 ∧ Pv m' σ2 G3 H3) ∧ tu { Dn with nx := N, ct := N, bk := tz Dn } σ' H1 else tz Dn σ' H1) : tSeq (tWhile t tu) tz Dn σ H := s_while (Dn := { Dn with nx := tz Dn }) S Pv m0 h0 hs
/-! ### comprehensions whose test draws -/
theorem f_lcR {tt : TT} {vs : List Nat} (E : Nat → List D) (f : Nat → D) (hi : EvI K wi σ G n Y) (hg : ∀ i, i < n → EvG K g (Y i) js (E i)) (hz : n ≤ 1000000)
    (hl : ∀ i, i < n → (E i).length = js.length)
    (hw : ∀ us : List V, us.length = js.length → wipe (setAll (wipe σ vs) js us) vs = wipe σ vs)
    (ht : ∀ i, i < n → ∀ G1, Ex G G1 → ∀ us, RpA K G1 us (E i) → EvBR K p tt (setAll (wipe σ vs) js us) G1)
    (he : ∀ i, i < n → ∀ G1, Ex G G1 → ∀ us, RpA K G1 us (E i) → EvD K te (setAll (wipe σ vs) js us) G1 (f i)) : EvRF K p (tLc wi g tt te vs) σ G (fun ds => ∃ b, ds = pick n b f) := fun H e gp dc Q q =>
  hi H e _ fun J G1 H1 s1 wk Dl hD => by
    have S1 := (Sd.refl e gp dc).then s1
    have nD : Dl ≠ p := S1.d.ne hD
    have hDh : H Dl = none := S1.pre hD nD
    refine ⟨fun i m H' => m = n - i ∧ i ≤ n ∧ ∃ G' xs b, Sd p G H G' H' ∧ Ex G1 G' ∧ G' Dl = none ∧ H' Dl = some (.lst xs) ∧ RpA K G' xs (pick i b f), ⟨n, by omega, Nat.zero_le _, G1, [], fun _ => false, S1.own hD, Ex.refl _, Step.back S1.s.i hD, upd_same, .nil⟩, ?_⟩
    rintro i m H' ⟨rfl, hi', G', xs, b, S2, e2, hD1, hD2, r2⟩
    by_cases hlt : i < n
    · refine .inr ⟨wk.goes i H' hlt (e2.trans S2.ii), fun H2 => i + 1 ≤ n ∧ ∃ G' xs b, Sd p G H G' H2 ∧ Ex G1 G' ∧ G' Dl = none ∧ H2 Dl = some (.lst xs) ∧ RpA K G' xs (pick (i + 1) b f), fun H2 pp => ⟨n - (i + 1), by omega, rfl, pp⟩, fun x H2 y => ?_⟩
      obtain ⟨G2, s3, r3⟩ := wk.yields i G' H' x H2 hlt e2 S2.ii y
      refine hg i hlt G2 H2 x _ _ s3.i r3 fun us ru => ⟨hw us (by rw [ru.len]; exact hl i hlt), ?_⟩
      obtain ⟨g3, k3⟩ := s3.keep hD1 hD2
      have S3 := S2.then s3
      refine (ht i hlt G2 S3.gg us ru) H2 S3.ii S3.g S3.d _ fun bb G3 H3 s4 => ?_
      obtain ⟨g4, k4⟩ := s4.keep nD g3 k3
      have S4 := S3.trans s4
      cases bb with
      | true =>
        show te (setAll (wipe σ vs) js us) H3 _
        refine ((he i hlt G2 S3.gg us ru).mono s4.gg) H3 S4.ii _ fun v G4 H4 s5 r5 => ?_
        obtain ⟨g5, k5⟩ := s5.keep g4 k4
        have S5 := S4.then s5
        refine ⟨xs, k5, ?_, hlt, G4, xs ++ [v], fun j => if j = i then true else b j, S5.mut nD hDh g5, e2.trans (s3.g.trans (s4.gg.trans s5.g)), g5, upd_same, ?_⟩
        · rw [r2.len]
          have := pick_len (n := i) b f
          rw [sizeLine_eq]
          omega
        · have z : pick i (fun j => if j = i then true else b j) f = pick i b f := by
            unfold pick
            congr 1
            refine List.filter_congr fun j hj => ?_
            rw [if_neg (by have := List.mem_range.mp hj; omega)]
          rw [pick_yes (if_pos rfl), z]
          exact (r2.ex (s3.g.trans (s4.gg.trans s5.g))).snoc r5
      | false =>
        refine ⟨hlt, G3, xs, fun j => if j = i then false else b j, S4, e2.trans (s3.g.trans s4.gg), g4, k4, ?_⟩
        have z : pick i (fun j => if j = i then false else b j) f = pick i b f := by
            unfold pick
            congr 1
            refine List.filter_congr fun j hj => ?_
            rw [if_neg (by have := List.mem_range.mp hj; omega)]
        rw [pick_no (if_pos rfl), z]
        exact r2.ex (s3.g.trans s4.gg)
    · have z : i = n := by omega
      subst z
      exact .inl ⟨wk.stops H' (e2.trans S2.ii), q Dl xs _ G' H' S2 hDh hD1 hD2 ⟨b, rfl⟩ r2⟩
/-! ### draws within bounds -/
theorem r_w {a1 b1 a2 b2 : Nat} (h : EvR K p te σ G (Btw a1 b1)) (h1 : a2 ≤ a1) (h2 : b1 ≤ b2) : EvR K p te σ G (Btw a2 b2) := h.imp fun d ⟨r, e, h3, h4⟩ => ⟨r, e, by omega, by omega⟩
theorem pb_nil : EvRs K p tNil σ G fun ds => ds.length = 0 ∧ ∀ d ∈ ds, R d := rs_nil ⟨rfl, fun _ h => nomatch h⟩
theorem pb_cons (h1 : EvR K p te σ G R) (h2 : EvRs K p as σ G fun ds => ds.length = n ∧ ∀ d ∈ ds, R d) : EvRs K p (tCons te as) σ G fun ds => ds.length = n + 1 ∧ ∀ d ∈ ds, R d :=
  rs_cons h1 h2 fun d ds hd ⟨hl, hr⟩ => ⟨by rw [List.length_cons, hl], fun x hx => by
    cases hx with
    | head => exact hd
    | tail _ h => exact hr x h⟩
theorem r_ixL (ha : EvD K ta σ G (.lst ds)) (hb : EvR K p tb σ G (Lt ds.length)) (hr : ∀ d ∈ ds, R d) : EvR K p (tOp (rIx K) ta tb) σ G R :=
  r_op (RA := fun d => d = .lst ds) (r_of ha rfl) hb fun x y d1 d2 G1 H1 Q e1 e2 q1 q2 rp1 rp2 q => by
    subst q1
    obtain ⟨i, rfl, hi⟩ := q2
    obtain ⟨l, xs, rfl, hs, hx⟩ := rp1.lst_of
    obtain ⟨v, hv, rv⟩ := hx.at (List.getElem?_eq_getElem hi)
    exact .inl ⟨l, xs, (i : Int), v, rfl, rp2.int_of, .of (e2 _ _ hs), atI_nat hv, q v ds[i] (hr _ (List.getElem_mem hi)) rv⟩
theorem s_appR {i : Nat} {q : Addr} {xs : List V} (e : Ex G H) (gp : G p = none) (dc : Dice p H) (nq : q ≠ p) (gq : G q = none) (xq : H q = some (.lst xs)) (hi : σ[i]? = some (some (.ref q))) (h : EvR K p te σ G R) (hz : xs.length < 100000)
    (k : ∀ v d G1 H1, Sd p G H G1 H1 → G1 q = none → R d → Rp K G1 v d → Dn.nx σ (upd H1 q (.lst (xs ++ [v])))) : tDrop (tBM K "list" rAppend (tVar i) (tCons te tNil)) Dn σ H :=
  ⟨_, hi, Or.inl ⟨rfl, xs, .of xq⟩, h H e gp dc _ fun v d G1 H1 s g1 d1 rd r => by
    have S : Sd p G H G1 H1 := ⟨s, g1, d1⟩
    obtain ⟨gq1, xq1⟩ := S.keep nq gq xq
    exact ⟨q, xs, v, rfl, rfl, xq1, sz_lt hz, k v d G1 H1 S gq1 rd r⟩⟩
theorem q_appR {i : Nat} {q : Addr} {xs : List V} (e : Ex G H) (gp : G p = none) (dc : Dice p H) (nq : q ≠ p) (gq : G q = none) (xq : H q = some (.lst xs)) (hi : σ[i]? = some (some (.ref q))) (h : EvR K p te σ G R) (hz : xs.length < 100000)
    (k : ∀ v d G1 H1, Sd p G H G1 H1 → G1 q = none → R d → Rp K G1 v d → tz Dn σ (upd H1 q (.lst (xs ++ [v])))) : tSeq (tDrop (tBM K "list" rAppend (tVar i) (tCons te tNil))) tz Dn σ H := s_appR (Dn := { Dn with nx := tz Dn }) e gp dc nq gq xq hi h hz k
theorem Sd.freeze {q : Addr} {o : HO} (s : Sd p G0 H0 G H) (n : q ≠ p) (h : H0 q = none) (g : G q = none) (x : H q = some o) : Sd p G0 H0 (upd G q o) H :=
  ⟨s.s.freeze ((hide_ne n).trans h) g x, by rw [upd_ne (Ne.symm n)]; exact s.g, s.d⟩
/-- a drawn value, with the step as one -/
theorem qr_asg' {i : Nat} (S : Sd p G0 H0 G H) (h : EvR K p te σ G R) (k : ∀ v d G1 H1, Sd p G H G1 H1 → Sd p G0 H0 G1 H1 → R d → Rp K G1 v d → tz Dn (σ.set i (some v)) H1) : tSeq (tAsg te (gName i)) tz Dn σ H :=
  qr_asg S.ii S.g S.d h fun v d G1 H1 s g1 d1 r rp => k v d G1 H1 ⟨s, g1, d1⟩ (S.trans ⟨s, g1, d1⟩) r rp
theorem sr_ret' (S : Sd p G0 H0 G H) (h : EvR K p te σ G R) (k : ∀ v d G1 H1, Sd p G0 H0 G1 H1 → R d → Rp K G1 v d → Dn.rt v H1) : tRet te Dn σ H :=
  sr_ret S.ii S.g S.d h fun v d G1 H1 s g1 d1 r rp => k v d G1 H1 (S.trans ⟨s, g1, d1⟩) r rp
theorem q_newLR {i : Nat} (S : Sd p G0 H0 G H) (k : ∀ q H1, H q = none → H0 q = none → q ≠ p → G q = none → Sd p G0 H0 G H1 → Step G H G H1 → H1 q = some (.lst []) → tz Dn (σ.set i (some (.ref q))) H1) : tSeq (tAsg (tLst tNil) (gName i)) tz Dn σ H :=
  q_newL S.ii fun q H1 h1 h2 s h3 => k q H1 h1 (S.pre h1 (S.d.ne h1)) (S.d.ne h1) h2 (S.then s) s h3
theorem r_min2 {a1 b1 a2 b2 : Nat} (ha : EvR K p ta σ G (Btw a1 b1)) (hb : EvR K p tb σ G (Btw a2 b2)) : EvR K p (tCB (fun xs H Q => ∃ i j, xs = [.int i, .int j] ∧ Q (.int (if j < i then j else i)) H) (tCons ta (tCons tb tNil))) σ G (Btw (min a1 a2) (min b1 b2)) := fun H e g dc Q q =>
  ha H e g dc _ fun v d G1 H1 s1 g1 d1 ⟨i, e1, h1, h2⟩ rp1 => (hb.mono s1.g) H1 s1.i g1 d1 _ fun w d2 G2 H2 s2 g2 d2 ⟨j, e2, h3, h4⟩ rp2 => by
    subst e1 e2
    refine ⟨i, j, by rw [rp1.int_of, rp2.int_of], ?_⟩
    have z : (if (j : Int) < i then (j : Int) else i) = ((min i j : Nat) : Int) := by split <;> omega
    rw [z]
    exact q _ (.int ((min i j : Nat) : Int)) G2 H2 (s1.transR s2 d1) g2 d2 ⟨min i j, rfl, by omega, by omega⟩ (.int _)
theorem s_dputTR {i : Nat} {q : Addr} {kvs : List (List Key × V)} {ks : List Key} (e : Ex G H) (gp : G p = none) (dc : Dice p H) (nq : q ≠ p) (gq : G q = none) (xq : H q = some (.dT kvs)) (hi : σ[i]? = some (some (.ref q))) (hv : EvR K p te σ G R) (hf : ∀ d, R d → d.flat = true) (hk : EvD K tb σ G d2) (hkd : d2 = .tup (ks.map kD)) (hz : kvs.length < 1000000)
    (k : ∀ d G1 H1, Sd p G H G1 H1 → G1 q = none → R d → Dn.nx σ (upd H1 q (.dT (putK kvs ks d.toV)))) : sDPut (tVar i) tb te Dn σ H :=
  hv H e gp dc _ fun v d G1 H1 s1 g1 dc1 rd r1 => ⟨_, hi, (hk.mono s1.g) H1 s1.i _ fun y G2 H2 s2 r2 => by
    subst hkd
    obtain ⟨b, xs, rfl, hb, hxs⟩ := r2.tup_of
    have z := hxs.keys
    subst z
    have S : Sd p G H G2 H2 := (Sd.mk s1 g1 dc1).then s2
    obtain ⟨g2, x2⟩ := S.keep nq gq xq
    rw [(r1.flat (hf d rd)).1]
    exact ⟨q, _, rfl, DPut.t x2 (s2.i _ _ hb) (by rw [sizeLine_eq]; omega), k d G2 H2 S g2 rd⟩⟩
theorem r_pow6 : EvR K p (tOp (rI CPow fun i j => .int (i ^ j.toNat)) (tC (.int 10)) (tC (.int 6))) σ G (Btw 1000000 1000000) := r_n (EvD.int (e_pow (i := 10) (j := 6) e_int e_int ⟨by decide, by decide, by decide⟩) (by decide))
theorem q_newTR {i : Nat} (S : Sd p G0 H0 G H) (k : ∀ q H1, H q = none → H0 q = none → q ≠ p → G q = none → Sd p G0 H0 G H1 → Step G H G H1 → H1 q = some (.dT []) → tz Dn (σ.set i (some (.ref q))) H1) : tSeq (tAsg tDNewT (gName i)) tz Dn σ H :=
  q_newT S.ii fun q H1 h1 h2 s h3 => k q H1 h1 (S.pre h1 (S.d.ne h1)) (S.d.ne h1) h2 (S.then s) s h3
theorem qrf_asg {i : Nat} (S : Sd p G0 H0 G H) (h : EvRF K p te σ G Rs) (k : ∀ q xs ds G1 H1, Sd p G H G1 H1 → H q = none → G1 q = none → H1 q = some (.lst xs) → Rs ds → RpA K G1 xs ds → tz Dn (σ.set i (some (.ref q))) H1) : tSeq (tAsg te (gName i)) tz Dn σ H :=
  h H S.ii S.g S.d _ k
theorem srf_ret (S : Sd p G0 H0 G H) (h : EvRF K p te σ G Rs) (k : ∀ q xs ds G1 H1, Sd p G0 H0 G1 H1 → H0 q = none → G1 q = none → H1 q = some (.lst xs) → Rs ds → RpA K G1 xs ds → Dn.rt (.ref q) H1) : tRet te Dn σ H :=
  h H S.ii S.g S.d _ fun q xs ds G1 H1 s h1 h2 h3 h4 h5 => k q xs ds G1 H1 (S.trans s) (S.pre h1 (S.d.ne h1)) h2 h3 h4 h5
/-- t1, t2, .. = a drawn tuple -/
theorem qr_asgT (S : Sd p G0 H0 G H) (h : EvR K p te σ G R) (k : ∀ v d G1 H1, Sd p G H G1 H1 → Sd p G0 H0 G1 H1 → R d → Rp K G1 v d → g v σ H1 (tz Dn)) : tSeq (tAsg te g) tz Dn σ H :=
  h H S.ii S.g S.d _ fun v d G1 H1 s g1 d1 r rp => k v d G1 H1 ⟨s, g1, d1⟩ (S.trans ⟨s, g1, d1⟩) r rp
theorem r_lit {i : Int} (h : 0 ≤ i) : EvR K p (tC (.int i)) σ G (Btw i.toNat i.toNat) := r_n (EvD.int e_int (by omega))
theorem pbw_one {a1 b1 : Nat} (h : EvR K p te σ G (Btw a1 b1)) : EvRs K p (tCons te tNil) σ G fun ds => ds.length = 1 ∧ ∀ d ∈ ds, Btw a1 b1 d := pb_cons h pb_nil
theorem pbw_cons {a1 b1 a2 b2 n : Nat} (h : EvR K p te σ G (Btw a1 b1)) (h2 : EvRs K p as σ G fun ds => ds.length = n ∧ ∀ d ∈ ds, Btw a2 b2 d) : EvRs K p (tCons te as) σ G fun ds => ds.length = n + 1 ∧ ∀ d ∈ ds, Btw (min a1 a2) (max b1 b2) d :=
  rs_cons (r_w h (Nat.min_le_left _ _) (Nat.le_max_left _ _)) h2 fun d ds hd ⟨hl, hr⟩ => ⟨by rw [List.length_cons, hl], fun x hx => by
    cases hx with
    | head => exact hd
    | tail _ h =>
      obtain ⟨r, e, h1, h2⟩ := hr x h
      exact ⟨r, e, by omega, by omega⟩⟩
end
def Pre_off (ds : List D) : Prop := ∃ m : Nat, ds = [.int m] ∧ 0 < m ∧ m ≤ 1000000
def R_off (ds : List D) (d : D) : Prop := ∃ m : Nat, ds = [.int m] ∧ Lt m d
section
variable [Tbs] {K : PySem.W.Frag}
theorem r_off {σ : L2.St} {p : Addr} {G : Hp} {te : TE} {E : XK} {lo hi i : Nat} (hs : σ[i]? = some (some (.ref p))) (h : EvR K p te σ G (Btw lo hi)) (h0 : 0 < lo) (h1 : hi ≤ 1000000) : EvR K p (tCall (spR K Pre_off R_off) [] E (tCons (tVar i) (tCons te tNil))) σ G (Btw 0 (hi - 1)) :=
  r_call hs (rs_one h fun d ⟨m, hd, h2, h3⟩ => ⟨⟨m, by rw [hd], by omega, by omega⟩, fun d' ⟨m', hm, r, hr, hl⟩ => ⟨r, hr, Nat.zero_le _, by
    have hm : D.int m = D.int m' := by rw [← hd]; injection hm
    injection hm with hm
    omega⟩⟩)
theorem r_offN {σ : L2.St} {p : Addr} {G : Hp} {te : TE} {E : XK} {n i : Nat} (hs : σ[i]? = some (some (.ref p))) (h : EvD K te σ G (.int n)) (h0 : 0 < n) (h1 : n ≤ 1000000) : EvR K p (tCall (spR K Pre_off R_off) [] E (tCons (tVar i) (tCons te tNil))) σ G (Lt n) :=
  (r_call1 hs (a_one h) ⟨n, rfl, h0, h1⟩).imp fun d ⟨m', hm, h⟩ => by
    have hm : D.int n = D.int m' := by injection hm
    injection hm with hm
    have hm : n = m' := by omega
    rw [hm]
    exact h
end
end J

/-! sorted(xs, key=lambda r: ..) whose keys are pairs of ints. -/
namespace J
open PySem PySem.Spec PyProof.Rows L2
section
variable {prog : Program} {w : World} {A : Around} {E : Value → Shared → Prop} {s : Shared} {env : Env} {r : Str} {m : Str → Option Value} {t : Addr} {items : Array Value} {i j : Int} {a b : Tok} {k k2 : Nat} {p1 p2 p3 p4 p5 p6 p7 : Pos}
theorem reads_pair {h : Heap} {q : Addr} {o : Obj} {n : Nat} (h1 : h.get? q = some o) (h2 : o.cls = .type "tuple") (h3 : o.data = .seq #[.int i a, .int j b] n) : Reads h (.ref q) (.tuple [.int i, .int j]) [] :=
  .tuple h1 h2 h3 (.cons (as := []) (.int _ _) (.cons (as := []) (.int _ _) .nil))
/-- r[:2] -/
theorem key_cut (hk : env.scope.kind = .function) (hl : env.kindOf r = some .local) (hn : s.heap.Ns env.locals m) (hv : m r = some (.ref t)) (ht : IsTup s.heap t items) (h0 : items[0]? = some (.int i a)) (h1 : items[1]? = some (.int j b)) (h2 : 2 < items.size) (hz : items.size ≤ sizeLine) (hd : (r == ("__debug__" : Str)) = false := by decide) :
    wpAny (model prog w) A (eval (.Subscript (.Name r p1) (.Slice none (some (.Constant (.int 2) k p2)) none p3) p4) env) (PySem.W.KeyPure (.tuple [.int i, .int j]) s) E s := by
  refine wpAny_Subscript_Slice PyProof.Rows.slot_tuple_getitem.lookup (wpAny_Name (wpAny_loadName_local hk hl hn hv ?_) hd)
  refine wpAny_Slice (wpAny_pure ?_)
  rw [evalPart_some]
  refine wpAny_Constant_int (wpAny_pure ?_)
  have ht2 : IsTup (s.heap.push { cls := .type "slice", data := .fields #[.none, .int 2 s.toks, .none] }) t items := ht.push _
  refine ⟨ht2.typeIs, ?_⟩
  refine HT.getItem_tuple_cut (lo := none) (hi := some 2) ht2 (Heap.IsSliceOf.new ..) ?_ ?_ ?_ ?_ hz
  · exact .none
  · exact .int 2 s.toks
  · have e : HT.sIx items.size items.size (some (2 : Int)) = min 2 items.size := HT.sIx_nat items.size items.size 2
    rw [e]
    omega
  · have e : HT.sIx items.size items.size (some (2 : Int)) = min 2 items.size := HT.sIx_nat items.size items.size 2
    refine ⟨_, _, rfl, fun b o q => Heap.get?_push_of_some _ (Heap.get?_push_of_some _ q), ?_⟩
    refine reads_pair (a := a) (b := b) (n := 0) (Heap.get?_push_size _ rfl) rfl ?_
    have h2' : min 2 items.size = 2 := by omega
    have e0 : HT.sIx items.size 0 none = 0 := rfl
    rw [e, h2', e0, List.drop_zero]
    have e3 : items.toList.take (2 - 0) = [.int i a, .int j b] := by
      apply List.ext_getElem?
      intro z
      rw [List.getElem?_take]
      match z with
      | 0 => simpa using h0
      | 1 => simpa using h1
      | z + 2 => rw [if_neg (by omega)]; rfl
    rw [e3]
/-- (r[0], r[1]) -/
theorem key_two (hk : env.scope.kind = .function) (hl : env.kindOf r = some .local) (hn : s.heap.Ns env.locals m) (hv : m r = some (.ref t)) (ht : IsTup s.heap t items) (h0 : items[0]? = some (.int i a)) (h1 : items[1]? = some (.int j b)) (h2 : 2 < items.size) (hz : items.size ≤ sizeLine) (hd : (r == ("__debug__" : Str)) = false := by decide) :
    wpAny (model prog w) A (eval (.Tuple [.Subscript (.Name r p1) (.Constant (.int 0) k p2) p3, .Subscript (.Name r p4) (.Constant (.int 1) k2 p5) p6] k p7) env) (PySem.W.KeyPure (.tuple [.int i, .int j]) s) E s := by
  have hn63 := line63
  have z1 : 1 < items.size := by omega
  have z0 : 0 < items.size := by omega
  refine wpAny_Tuple_spliced ?_
  show wpAny _ _ (spliced ((false, eval (.Subscript (.Name r p1) (.Constant (.int 0) k p2) p3) env) :: backTo p7 (starEach [.Subscript (.Name r p4) (.Constant (.int 1) k2 p5) p6] env))) _ _ s
  refine Calls.spliced_cons (wpAny_Subscript_Constant_late (wpAny_Name (wpAny_loadName_local hk hl hn hv (wpAny_Constant_int ?_)) hd))
  refine ⟨"tuple", _, PyProof.Rows.slot_tuple_getitem.lookup, ht.typeIs, getItem_tuple (j := 0) (x := .int i a) ht (by decide) (by decide) (ixN_seq (Evl.ixN_nat z0)).1 h0 ?_⟩
  show wpAny _ _ (spliced ((false, eval (.Subscript (.Name r p4) (.Constant (.int 1) k2 p5) p6) env) :: backTo p7 (starEach [] env))) _ _ _
  refine Calls.spliced_cons (wpAny_Subscript_Constant_late (wpAny_Name (wpAny_loadName_local hk hl hn hv (wpAny_Constant_int ?_)) hd))
  refine ⟨"tuple", _, PyProof.Rows.slot_tuple_getitem.lookup, ht.typeIs, getItem_tuple (j := 1) (x := .int j b) ht (by decide) (by decide) (ixN_seq (Evl.ixN_nat z1)).1 h1 ?_⟩
  refine Calls.spliced_nil ?_
  refine ⟨by show 2 ≤ _; rw [sizeLine_eq]; decide, _, _, rfl, fun b o q => Heap.get?_push_of_some _ q, reads_pair (a := a) (b := b) (n := 0) (Heap.get?_push_size _ rfl) rfl rfl⟩
end
/-! ### the function object called -/
section
variable {P : Program} {w : World} {A : Around} {s : Shared} {h : Heap} {tk : Nat} {f c' : Addr} {q r : Str} {params : Arguments} {body : Expr} {scope : Scope} {pm ctv v : Value} {k : PyData}
theorem key_call (hd : A.depth < recursionLimit) (hlim : h.NoLimit) (hf : h.get? f = some (PySem.W.kla_obj "<lambda>" q params body scope [] pm c' ctv)) (hk : scope.kind = .function) (hco : scope.isCoroutine = false) (hgen : scope.isGenerator = false)
    (hcell : ∀ y ∈ scope.names, y.2 ≠ .cell) (hl : scope.names.lookup r = some .local) (hcd : h.CodeRec (.ref c') q)
    (hbind : bindArgs (PySem.W.kla_fn "<lambda>" q params body scope [] pm (.ref c') ctv) ⟨[v], []⟩ = pure [(r, v)])
    (hb : ∀ (h1 : Heap) (env : Env) (tk1 : Nat), (∀ b o, h.get? b = some o → h1.get? b = some o) → env.scope = scope → env.cells = [] → h1.Ns env.locals (fun x => [(r, v)].reverse.lookup x) →
      wpAny (model P w) (A.deeper env) (eval body env) (PySem.W.KeyPure k { s with heap := h1, toks := tk1 }) (fun _ _ => False) { s with heap := h1, toks := tk1 }) :
    wpAny (model P w) A (call (.ref f) [v]) (PySem.W.KeyPure k { s with heap := h, toks := tk }) (fun _ _ => False) { s with heap := h, toks := tk } := by
  have rc : codeAny (model P w) A (.call (.ref f) ⟨[v], []⟩) (fun x s' => ∃ u, x = .ok (.ret u) ∧ PySem.W.KeyPure k { s with heap := h, toks := tk } u s') { s with heap := h, toks := tk } := by
    refine PySem.W.kla_callFunE hd hf rfl hco hgen rfl hcd ?_
    rw [hbind]
    refine wpAny_pure (wpAny_newFunctionEnv hcell (fun y hy => ?_) (fun h1 hns hsb => ⟨hlim.fresh _ hsb, ?_⟩) hk)
    · rw [List.mem_singleton.mp hy]
      exact hl
    have kp : ∀ b o, h.get? b = some o → h1.get? b = some o := fun b o e => hsb.extBut b o (Nat.ne_of_lt (Heap.lt_size e)) (Heap.get?_push_of_some _ e)
    refine PySem.W.kla_codeExpr (wpAny_mono (hb h1 _ _ kp rfl rfl hns) (fun u s' hq => ?_) fun _ _ z => z.elim)
    obtain ⟨h2, tk2, e1, e2, e3⟩ := hq
    exact ⟨u, rfl, h2, tk2, e1, fun b o z => e2 b o (kp b o z), e3⟩
  refine wpAny_call (codeAny_mono rc fun x s' hq => ?_)
  obtain ⟨u, rfl, hq⟩ := hq
  exact hq
end
/-! ### the rule -/
/-- what is asked of the lambda's body: at a row it gives its first two items, whole numbers -/
def KeyBody (body : Expr) (r : Str) : Prop := ∀ (P : Program) (w : World) (A : Around) (s : Shared) (env : Env) (m : Str → Option Value) (t : Addr) (items : Array Value) (i j : Int) (a b : Tok), env.scope.kind = .function → env.kindOf r = some .local → s.heap.Ns env.locals m → m r = some (.ref t) →
  IsTup s.heap t items → items[0]? = some (.int i a) → items[1]? = some (.int j b) → 2 < items.size → items.size ≤ sizeLine → wpAny (model P w) A (eval body env) (PySem.W.KeyPure (.tuple [.int i, .int j]) s) (fun _ _ => False) s
theorem kb_cut {r : Str} {k : Nat} {p1 p2 p3 p4 : Pos} (hd : (r == ("__debug__" : Str)) = false := by decide) : KeyBody (.Subscript (.Name r p1) (.Slice none (some (.Constant (.int 2) k p2)) none p3) p4) r := fun _ _ _ _ _ _ _ _ _ _ _ _ h1 h2 h3 h4 h5 h6 h7 h8 h9 => key_cut h1 h2 h3 h4 h5 h6 h7 h8 h9 hd
theorem kb_two {r : Str} {k k2 k3 : Nat} {p1 p2 p3 p4 p5 p6 p7 : Pos} (hd : (r == ("__debug__" : Str)) = false := by decide) : KeyBody (.Tuple [.Subscript (.Name r p1) (.Constant (.int 0) k p2) p3, .Subscript (.Name r p4) (.Constant (.int 1) k2 p5) p6] k3 p7) r := fun _ _ _ _ _ _ _ _ _ _ _ _ h1 h2 h3 h4 h5 h6 h7 h8 h9 => key_two h1 h2 h3 h4 h5 h6 h7 h8 h9 hd
/-- a row of at least three items that begins with two whole numbers -/
def RowIs (H : Hp) (x : V) (i j : Int) : Prop := ∃ t y rest, x = .ref t ∧ H t = some (.tup (.int i :: .int j :: y :: rest))
/-- rows with their keys, sorted by these -/
def keyLe (p q : V × Int × Int) : Bool := decide (p.2.1 < q.2.1 ∨ (p.2.1 = q.2.1 ∧ p.2.2 ≤ q.2.2))
/-- the heap behind the making of a lambda: a code object more, told by the table at P; or as it was -/
def Made (P : Addr) (q : Str) (H H1 : Hp) : Prop := H1 = H ∨ ∃ ps qs d, H P = some (.tbl ps) ∧ H d = none ∧ Grew (upd (upd H P (.tbl qs)) d (LamX.CodeO d q)) q ps qs ∧ H1 = upd (upd H P (.tbl qs)) d (LamX.CodeO d q)
def tSortK (K : PySem.W.Frag) (P : Addr) (q : Str) (te : TE) : TE := fun σ H Q => te σ H fun v H1 => ∃ a, ∃ bs : List (V × Int × Int), v = .ref a ∧ SqL K H1 a (bs.map (·.1)) ∧ LamX.TabS H1 P q ∧ (∀ b ∈ bs, RowIs H1 b.1 b.2.1 b.2.2) ∧ bs.length ≤ 1000000 ∧
  ∀ H2 l, Made P q H1 H2 → H2 l = none → Q (.ref l) (upd H2 l (.lst ((bs.mergeSort keyLe).map (·.1))))
theorem keyLe_eq : PySem.W.dataLe false (fun b : V × Int × Int => PyData.tuple [.int b.2.1, .int b.2.2]) = keyLe := PySem.W.dataLe_ii (fun b : V × Int × Int => b.2.1) fun b => b.2.2
section
variable {X : Cx} {pins : List (Addr × Obj)} {σ : L2.St} {H : Hp} {s : Shared}
theorem lam_new {cd P : Addr} {params : Arguments} {body : Expr} {scope : Scope} {lp : Pos} {Er : Value → Shared → Prop} {Q : Value → Shared → Prop} (I : Inv X pins σ H s) (TB : LamX.TabB X.base X.mg cd P) (code : X.env.code = .ref cd) (good : LamX.TabS H P (X.env.qual ++ "<lambda>"))
    (nodef : defaultsOf params X.env = ([], [])) (nofree : ∀ y ∈ scope.names, y.2 ≠ .free)
    (k : ∀ (f d : Addr) (pm tv : Value) (H1 : Hp) (s1 : Shared), Inv X pins σ H1 s1 → Made P (X.env.qual ++ "<lambda>") H H1 → s1.heap.get? f = some (PySem.W.kla_obj "<lambda>" (X.env.qual ++ "<lambda>") params body scope (cloFrom X.env.cells scope.names []) pm d tv) →
      H1 d = some (LamX.CodeO d (X.env.qual ++ "<lambda>")) → Q (.ref f) s1) : wpAny (model X.prog X.w) X.A (eval (.Lambda params body scope lp) X.env) Q Er s := by
  obtain ⟨ps, hP, tri, told⟩ := good
  have clo : closureFor scope X.env = pure (cloFrom X.env.cells scope.names []) := closure_ok fun y hy e => absurd e (nofree y hy)
  have bm := TB.bm.keeps I.bk
  have atP := I.hok P _ hP
  refine PySem.W.kla_eval nodef ?_
  cases found : codeAmong lp ps.toList with
  | some cv =>
    obtain ⟨d, rfl, hd⟩ := told lp cv found
    refine PySem.W.kla_makeFunctionHit (mg := X.mg) (c := cd) (P := P) (ps := ps) clo I.ok.glob (I.mod.glob.keeps I.bk) code (TB.code.keeps I.bk) atP tri found bm fun tv h1 tk up sz => ?_
    exact k _ d _ tv H _ (I.kept fun b o e => Heap.get?_push_of_some _ (up b o e)) (.inl rfl) (Heap.get?_push_size _ rfl) hd
  | none =>
    refine PySem.W.kla_makeFunction (mg := X.mg) (c := cd) (P := P) (ps := ps) clo I.ok.glob (I.mod.glob.keeps I.bk) code (TB.code.keeps I.bk) atP tri found TB.gP bm fun d tv h1 tk up ge lt rec tab => ?_
    obtain ⟨_, oc, us, t, e2, g1, g2, g3⟩ := rec
    cases e2
    have nd : H d = none := I.hok.fresh ge
    refine k _ d _ tv _ _ (LamX.inv_table (t' := tk) (more := #[rawInt lp.line, rawInt lp.col, .ref d]) I hP (fun b o hb e => Heap.get?_push_of_some _ (up b o hb e)) (Heap.get?_push_of_some _ tab) ge ⟨oc, us, t, Heap.get?_push_of_some _ g1, g2, g3⟩) (.inr ⟨ps, _, d, hP, nd, ?_, rfl⟩) (Heap.get?_push_size _ rfl) upd_same
    have el : (ps ++ #[rawInt lp.line, rawInt lp.col, .ref d]).toList = ps.toList ++ [rawInt lp.line, rawInt lp.col, .ref d] := by simp
    intro _
    rw [el]
    refine ⟨PySem.TriplesOk_snoc _ _ _ _ tri, fun pos cv hc => ?_⟩
    rcases LamX.among_app _ tri hc with z | z
    · exact .inl ⟨pos, z⟩
    · exact .inr ⟨d, z, upd_same⟩
theorem pe_sortedK {e : Expr} {te : TE} {cd P : Addr} {kk : Nat} {x r : Str} {params : Arguments} {body : Expr} {scope : Scope} {lp p kp pos : Pos} (hg : Gl X x) (hm : X.mg x = none) (hv : bootBuiltins x = some (.builtin "sorted")) (he : PE X e te) (hr : Room kk X.A) (TB : LamX.TabB X.base X.mg cd P) (code : X.env.code = .ref cd)
    (kb : KeyBody body r) (nodef : defaultsOf params X.env = ([], [])) (hk : scope.kind = .function) (hco : scope.isCoroutine = false) (hgen : scope.isGenerator = false) (hnames : scope.names = [(r, .local)])
    (hbind : ∀ (q : Str) (cl : List (Str × Addr)) (pm cv ctv v : Value), bindArgs (PySem.W.kla_fn "<lambda>" q params body scope cl pm cv ctv) ⟨[v], []⟩ = pure [(r, v)])
    (hn : x ≠ "__name__" := by decide) (hdb : (x == ("__debug__" : Str)) = false := by decide)
    (hst : starEach [e] X.env = (false, eval e X.env) :: starEach [] X.env := by rfl) :
    PE X (.Call (.Name x p) [e] [⟨some "key", .Lambda params body scope lp, kp⟩] pos) (tSortK X.K P (X.env.qual ++ "<lambda>") te) := by
  refine ⟨fun pins s σ H Q I h => ?_⟩
  refine wpAny_Call_Name_kw (ld_blt I hg hm hv ?_ hn hdb)
  refine PyProof.Rows.callWith_kw ?_ (by rw [hst]; rfl) (by rw [hst]; rfl) (by rfl) (by rfl)
  rw [hst]
  show wpAny _ _ (spliced ((false, eval e X.env) :: backTo pos (starEach [] X.env))) _ _ s
  refine Calls.spliced_cons (thn (he.run pins s σ H _ I h) fun u s1 ⟨v, H1, I1, r1, q1⟩ => Calls.spliced_nil ?_)
  obtain ⟨a, bs, rfl, hs, tab, rows, hlen, q⟩ := q1
  obtain rfl : u = Value.ref a := r1
  show wpAny _ _ (evalAll [do let v ← eval (.Lambda params body scope lp) X.env; standAt pos; pure v]) _ _ s1
  refine wpAny_evalAll_cons (wpAny_bind (lam_new I1 TB code tab nodef (by rw [hnames]; intro y hy; rw [List.mem_singleton.mp hy]; exact fun z => nomatch z) fun f d pm tv H2 s2 I2 made hf hd => wpAny_bind (wpAny_standAt (wpAny_pure (wpAny_evalAll_nil ?_)))))
  have keep2 : ∀ b o, H1 b = some o → isTbl o = false → H2 b = some o := fun b o hb t => by
    rcases made with rfl | ⟨ps, qs, d', h1, h2, _, rfl⟩
    · exact hb
    · rw [upd_ne (ne_of_none hb h2), upd_ne (fun z => by subst z; rw [h1] at hb; cases hb; cases t)]
      exact hb
  have hs2 : SqL X.K H2 a (bs.map (·.1)) := by
    rcases hs with (z | ⟨o, z⟩) | z
    · exact .inl (.inl (keep2 _ _ z rfl))
    · exact .inl (.inr ⟨o, keep2 _ _ z rfl⟩)
    · exact .inr z
  obtain ⟨its, rv, pl, hz⟩ := I2.list hs2
  have hclo : cloFrom X.env.cells scope.names [] = [] := by rw [hnames]; rfl
  rw [hclo] at hf
  obtain ⟨⟨oc, us, tq, hoc, hdc, hvc⟩, _, _⟩ := I2.hok d _ hd
  have hrow : PySem.W.EachIs (fun (u : Value) (b : V × Int × Int) => RelV b.1 u ∧ ∃ (t : Addr) (items : Array Value) (ta tb : Tok), u = .ref t ∧ IsTup s2.heap t items ∧ items[0]? = some (.int b.2.1 ta) ∧ items[1]? = some (.int b.2.2 tb) ∧ 2 < items.size ∧ items.size ≤ sizeLine) its bs := by
    clear hs hs2 hz hlen q pl
    induction bs generalizing its with
    | nil => cases rv; exact .nil
    | cons b bs ih =>
      cases rv with
      | cons r1 rv =>
        refine .cons ⟨r1, ?_⟩ (ih (fun b hb => rows b (List.mem_cons_of_mem _ hb)) _ rv)
        obtain ⟨t, y, rest, e1, e2⟩ := rows b List.mem_cons_self
        obtain ⟨z2, us2, rr, pt⟩ := I2.hok _ _ (keep2 _ _ e2 rfl)
        have r1' : RelV b.1 _ := r1
        rw [e1] at r1'
        obtain rfl := (show _ = Value.ref t from r1')
        have hlen2 := rr.length
        cases rr with
        | cons ra rr =>
          cases rr with
          | cons rb rr =>
            obtain ⟨ta, rfl⟩ := ra
            obtain ⟨tb, rfl⟩ := rb
            refine ⟨t, _, ta, tb, rfl, pt, rfl, rfl, ?_, ?_⟩
            · cases rr with
              | cons rc rr => simp
            · rw [List.size_toArray, ← hlen2]
              exact z2
  show wpAny _ _ (call (.builtin "sorted") [.ref a] [(Str.ofString "key", .ref f)]) _ _ s2
  refine PySem.W.sorted_key_data (b := false) (fun b : V × Int × Int => PyData.tuple [.int b.2.1, .int b.2.2]) pl.isList hrow (PySem.W.AllAlike.of fun b b' => by simp [PySem.W.alike, PySem.W.alikeAll]) (PySem.W.Sortable.tuples fun b => ⟨_, _, rfl⟩) (by rw [sizeLine_eq]; omega)
    (fun b _ => ?_) (PyProof.Rows.ksk_s1 _ _) (fun z => PyProof.Rows.ksk_l1 _ _) (fun z => PyProof.Rows.ksk_t1 f z) (fun v b hR hb h tk kp => ?_) fun out c h' tk kp fr hget hl hout => ?_
  · have := hr.un
    have e0 : (PyData.tuple [PyData.int b.2.1, PyData.int b.2.2]).depth = 1 := by simp [PyData.depth, PyData.depthAll]
    rw [e0]
    omega
  · obtain ⟨_, t, items, ta, tb, rfl, ht, h0, h1, h2, h3⟩ := hR
    refine key_call (r := r) hr.depth (I2.nolimit.keeps kp) (kp _ _ hf) hk hco hgen (by rw [hnames]; intro y hy; rw [List.mem_singleton.mp hy]; exact fun z => nomatch z) (by rw [hnames]; simp) ⟨d, oc, us, tq, rfl, kp _ _ hoc, hdc, hvc⟩ (hbind _ _ _ _ _ _) fun h1' env tk1 kp1 hsc hcl hns => ?_
    refine kb _ _ _ _ env _ t items _ _ ta tb (by rw [hsc]; exact hk) ?_ hns (by simp) ((ht.keeps kp).keeps kp1) h0 h1 h2 h3
    show env.scope.names.lookup r = _
    rw [hsc, hnames]
    simp
  · have ev : Vals ((bs.mergeSort keyLe).map (·.1)) out := by
      rw [keyLe_eq] at hout
      generalize bs.mergeSort keyLe = cs at hout
      clear hl hget
      induction hout with
      | nil => exact .nil
      | cons h1 _ ih => exact .cons h1.1 ih
    have hz3 : ((bs.mergeSort keyLe).map (·.1)).length ≤ sizeLine := by
      rw [List.length_map, List.length_mergeSort, sizeLine_eq]
      omega
    exact ⟨.ref _, upd H2 (s2.heap.objs.size + 1) (.lst ((bs.mergeSort keyLe).map (·.1))), I2.laid (t' := tk) kp (Nat.le_succ _) ⟨hz3, out, c, ev, hget⟩, rfl, q _ _ made (I2.hok.fresh (Nat.le_succ _))⟩
end
end J

/-! A def that makes a lambda; sorted rows. -/
namespace J
open PySem PySem.Spec PyProof.Rows L2
/-- a def whose code object is known -/
structure FunL (K : PySem.W.Frag) (x qual : Str) (st : Stmt) (f : Addr) (fd : FuncData) (cd : Addr) : Prop where
  ex : ∃ (oc : Value) (od : Option Addr) (kV doc pm : Value) (an : Option Addr) (ct : Value) (osl : Array (Option Value)),
    fd = PySem.W.fnOf x qual (defArgs st) (defBody st) (defScope st) .none kV doc pm an (.ref cd) ct ∧ K.lookup f = some ⟨oc, od, .func fd, osl⟩ ∧ PySem.W.codeIn K (.ref cd) qual = true
  kp : PySem.W.keepIn K (.ref f) = true
theorem FunL.fun {K : PySem.W.Frag} {x qual : Str} {st : Stmt} {f : Addr} {fd : FuncData} {cd : Addr} (F : FunL K x qual st f fd cd) : Fun K x qual st f fd := by
  obtain ⟨⟨oc, od, kV, doc, pm, an, ct, osl, e, lk, c⟩, kp⟩ := F
  exact ⟨⟨oc, od, kV, doc, pm, an, _, ct, osl, e, lk, c⟩, kp⟩
theorem FunL.ok {P : Program} {w : World} {K : PySem.W.Frag} {mg : Str → Option Value} {base : Heap} {x qual : Str} {st : Stmt} {f cd : Addr} {fd : FuncData} {N ps : List Str} {k : Nat} {sp : Sp} (F : FunL K x qual st f fd cd) (S : FnScope N ps (defScope st)) (len : ∀ vs H Q E, sp vs H Q E → vs.length = ps.length)
    (body : ∀ (A : Around) (outer : List Env) (s : Shared) (H : Hp) (vs : List V) (Q : VK) (E : XK), Room k (A.deeper (envOfC qual (defScope st) s.heap.objs.size f (.ref cd))) → sp vs H Q E →
      ∃ t, PSs (cxOf CX0 P w K mg base N qual (defScope st) f (.ref cd) A outer s H E).nox (defBody st) t ∧ t { nx := fun _ H' => Q .non H', rt := Q } (start N vs) H) : FnOk P w K mg base CX0 (k + 1) f fd ps sp := by
  obtain ⟨⟨oc, od, kV, doc, pm, an, ct, osl, rfl, lk, c⟩, kp⟩ := F
  refine fn_of lk c S len fun A outer s H vs Q E hr hsp => ?_
  obtain ⟨t, h, q⟩ := body A outer s H vs Q E hr hsp
  exact ⟨t, h.nox, q⟩
section
variable [Tbs] {K : PySem.W.Frag} {σ : L2.St} {G H : Hp} {te : TE} {P : Addr}
theorem made_step {H2 : Hp} (e : Ex G H) (m : Made P (Tbs.q P) H H2) : ∃ G2, Step G H G2 H2 := by
  rcases m with rfl | ⟨ps, qs, d, hP, hd, gr, rfl⟩
  · exact ⟨G, Step.refl e⟩
  have gd := fresh_back e hd
  have nPd : P ≠ d := ne_of_none hP hd
  have kk : ∀ b o, H b = some o → isTbl o = false → upd (upd H P (.tbl qs)) d (LamX.CodeO d (Tbs.q P)) b = some o := fun b o hb t => by
    rw [upd_ne (ne_of_none hb hd), upd_ne (fun z => by subst z; rw [hP] at hb; cases hb; cases t)]
    exact hb
  have hh : Ex H (upd (upd H P (.tbl qs)) d (LamX.CodeO d (Tbs.q P))) := ⟨kk, fun b p0 hb => by
    by_cases z : b = P
    · subst z
      rw [hP] at hb
      cases hb
      exact ⟨qs, by rw [upd_ne nPd, upd_same], gr⟩
    · exact ⟨p0, by rw [upd_ne (ne_of_none hb hd), upd_ne z]; exact hb, .refl⟩⟩
  refine ⟨upd G d (LamX.CodeO d (Tbs.q P)), Ex.new gd, ?_, hh, fun b o h1 h2 _ => ?_, fun b o h1 h2 _ => ?_⟩
  · have e2 := e.trans hh
    refine ⟨fun b o hb t => ?_, fun b p0 hb => ?_⟩
    · by_cases z : b = d
      · subst z; rw [upd_same] at hb; rw [upd_same]; exact hb
      · rw [upd_ne z] at hb; exact e2.k b o hb t
    · by_cases z : b = d
      · subst z; rw [upd_same] at hb; cases hb
      · rw [upd_ne z] at hb; exact e2.t b p0 hb
  · rw [upd_ne (ne_of_none h2 hd)]
    exact h1
  · have z : b = d := by
      by_cases z : b = d
      · exact z
      · rw [upd_ne z] at h2
        by_cases zP : b = P
        · subst zP; rw [hP] at h1; cases h1
        · rw [upd_ne zP, h1] at h2; cases h2
    subst z
    rw [upd_same]
    intro q
    cases q
theorem RpA.zip {α : Type} {f : α → D} : ∀ {xs : List α} {vs : List V}, RpA K G vs (xs.map f) → ∀ p ∈ vs.zip xs, Rp K G p.1 (f p.2)
  | [], _, h => by
    cases h
    intro p hp
    simp at hp
  | x :: xs, _, h => by
    cases h with
    | cons r1 ra =>
      intro p hp
      rw [List.zip_cons_cons] at hp
      cases hp with
      | head => exact r1
      | tail _ hp => exact RpA.zip ra p hp
theorem RpA.of_pairs {α : Type} {f : α → D} : ∀ {l : List (V × α)}, (∀ p ∈ l, Rp K G p.1 (f p.2)) → RpA K G (l.map (·.1)) ((l.map (·.2)).map f)
  | [], _ => .nil
  | p :: l, h => .cons (h p List.mem_cons_self) (RpA.of_pairs fun q hq => h q (List.mem_cons_of_mem _ hq))
/-- the table at P is known to be good -/
def Mk (G : Hp) (P : Addr) : Prop := ∃ G0, Ex G0 G ∧ G0 P = some (.tbl #[])
theorem Mk.ex {G1 : Hp} (m : Mk G P) (e : Ex G G1) : Mk G1 P := let ⟨G0, e0, h⟩ := m; ⟨G0, e0.trans e, h⟩
theorem Mk.tab (m : Mk G P) (e : Ex G H) : LamX.TabS H P (Tbs.q P) := let ⟨_, e0, h⟩ := m; (e0.trans e).tab h
theorem s_par3 {Dn : Ends} {i j l : Nat} {as : TA} {d1 d2 d3 : D} (e : Ex G H) (h : EvAs K as σ G [d1, d2, d3]) (k : ∀ v1 v2 v3 G1 H1, Step G H G1 H1 → Rp K G1 v1 d1 → Rp K G1 v2 d2 → Rp K G1 v3 d3 → Dn.nx (((σ.set i (some v1)).set j (some v2)).set l (some v3)) H1) : tPar3 i j l as Dn σ H := by
  refine h H e _ fun vs G1 H1 s r => ?_
  obtain ⟨a, b, c, rfl, ra, rb, rc⟩ := r.three
  exact ⟨a, b, c, rfl, k a b c G1 H1 s ra rb rc⟩
/-- rows by their keys -/
def rowLe {α : Type} (key : α → Nat × Nat) (a b : α) : Bool := decide ((key a).1 < (key b).1 ∨ ((key a).1 = (key b).1 ∧ (key a).2 ≤ (key b).2))
theorem f_sortedK {α : Type} {xs : List α} {f : α → D} {key : α → Nat × Nat} {y : α → D} {rest : α → List D} (h : EvD K te σ G (.lst (xs.map f))) (hm : Mk G P) (hf : ∀ x, f x = .tup (.int (key x).1 :: .int (key x).2 :: y x :: rest x)) (hl : xs.length ≤ 1000000) :
    EvF K (tSortK K P (Tbs.q P) te) σ G ((xs.mergeSort (rowLe key)).map f) := fun H e Q q =>
  h H e _ fun v G1 H1 s r => by
    obtain ⟨a, vs, rfl, hs, ra⟩ := r.lst_of
    have hlen : vs.length = xs.length := by rw [ra.len, List.length_map]
    have hG1 : Ex G H1 := s.g.trans s.i
    let g : V × α → V × Int × Int := fun p => (p.1, ((key p.2).1 : Int), ((key p.2).2 : Int))
    have hz : (vs.zip xs).map (·.1) = vs := List.map_fst_zip (by omega)
    have hz2 : (vs.zip xs).map (·.2) = xs := List.map_snd_zip (by omega)
    have rz := ra.zip
    have hbs : ((vs.zip xs).map g).map (·.1) = vs := by rw [List.map_map]; exact hz
    refine ⟨a, (vs.zip xs).map g, rfl, by rw [hbs]; exact .of (s.i _ _ hs), hm.tab hG1, fun b hb => ?_, by rw [List.length_map, List.length_zip]; omega, fun H2 l made hl2 => ?_⟩
    · obtain ⟨p, hp, rfl⟩ := List.mem_map.mp hb
      have r1 := rz p hp
      rw [hf] at r1
      obtain ⟨t, us, e1, ht, hu⟩ := r1.tup_of
      cases hu with
      | cons ru hu =>
        cases hu with
        | cons rw' hu =>
          cases hu with
          | cons _ hu =>
            rw [ru.int_of, rw'.int_of] at ht
            exact ⟨t, _, _, e1, s.i _ _ ht⟩
    · obtain ⟨G2, s2⟩ := made_step s.i made
      have hsort : (((vs.zip xs).map g).mergeSort keyLe) = ((vs.zip xs).mergeSort fun p q => rowLe key p.2 q.2).map g := by
        refine (List.map_mergeSort fun p _ q _ => ?_).symm
        show rowLe key p.2 q.2 = decide (((key p.2).1 : Int) < (key q.2).1 ∨ (((key p.2).1 : Int) = (key q.2).1 ∧ ((key p.2).2 : Int) ≤ (key q.2).2))
        unfold rowLe
        exact dec_iff (by omega)
      have hxs : xs.mergeSort (rowLe key) = ((vs.zip xs).mergeSort fun p q => rowLe key p.2 q.2).map (·.2) := by
        have h1 := List.map_mergeSort (l := vs.zip xs) (r := fun p q : V × α => rowLe key p.2 q.2) (s := rowLe key) (f := fun p => p.2) fun p _ q _ => rfl
        rw [h1, hz2]
      rw [hsort, List.map_map]
      have S := (s.trans s2)
      refine q l _ G2 _ (S.trans (Step.own s2.i hl2)) (S.pre hl2) (fresh_back s2.i hl2) upd_same ?_
      rw [hxs]
      exact RpA.of_pairs fun p hp => (rz p (List.mem_mergeSort.mp hp)).ex s2.g
/-- defs that sort: what they are told of the tables -/
def Mks (G : Hp) : Prop := Mk G Tbs.p1 ∧ Mk G Tbs.p2
theorem Mks.ex {G1 : Hp} (m : Mks G) (e : Ex G G1) : Mks G1 := ⟨m.1.ex e, m.2.ex e⟩
def spFm (K : PySem.W.Frag) (R : List D → List D → Prop) : Sp := fun vs H Q _ => ∃ G ds r, Ex G H ∧ Mks G ∧ RpA K G vs ds ∧ R ds r ∧ ∀ p xs G' H', Step G H G' H' → H p = none → G' p = none → H' p = some (.lst xs) → RpA K G' xs r → Q (.ref p) H'
def spPm (K : PySem.W.Frag) (R : List D → D → Prop) : Sp := fun vs H Q _ => ∃ G ds r, Ex G H ∧ Mks G ∧ RpA K G vs ds ∧ R ds r ∧ ∀ v G' H', Step G H G' H' → Rp K G' v r → Q v H'
variable {as : TA} {ds es : List D} {d : D}
theorem f_callm {R : List D → List D → Prop} {E : XK} (m : Mks G) (h : EvAs K as σ G ds) (hr : R ds es) : EvF K (tCall (spFm K R) [] E as) σ G es := fun H e Q q =>
  h H e _ fun vs G1 H1 s1 r1 => ⟨G1, ds, es, s1.i, m.ex s1.g, by rw [List.append_nil]; exact r1, hr, fun p xs G2 H2 s2 h1 h2 h3 r2 => q p xs G2 H2 (s1.trans s2) (s1.pre h1) h2 h3 r2⟩
theorem e_callm {R : List D → D → Prop} {E : XK} (m : Mks G) (h : EvAs K as σ G ds) (hr : R ds d) : EvD K (tCall (spPm K R) [] E as) σ G d := fun H e Q q =>
  h H e _ fun vs G1 H1 s1 r1 => ⟨G1, ds, d, s1.i, m.ex s1.g, by rw [List.append_nil]; exact r1, hr, fun v G2 H2 s2 r2 => q v G2 H2 (s1.trans s2) r2⟩
end
theorem pe_sortedK' [Tbs] {X : Cx} (K : PySem.W.Frag) (hK : X.K = K) {e : Expr} {te : TE} {cd P : Addr} {kk : Nat} {x r : Str} {params : Arguments} {body : Expr} {scope : Scope} {lp p kp pos : Pos} (hq : X.env.qual ++ "<lambda>" = Tbs.q P) (hg : Gl X x) (hm : X.mg x = none) (hv : bootBuiltins x = some (.builtin "sorted")) (he : PE X e te) (hr : Room kk X.A) (TB : LamX.TabB X.base X.mg cd P) (code : X.env.code = .ref cd)
    (kb : KeyBody body r) (nodef : defaultsOf params X.env = ([], []) := by rfl) (hk : scope.kind = .function := by rfl) (hco : scope.isCoroutine = false := by rfl) (hgen : scope.isGenerator = false := by rfl) (hnames : scope.names = [(r, .local)] := by rfl)
    (hbind : ∀ (q : Str) (cl : List (Str × Addr)) (pm cv ctv v : Value), bindArgs (PySem.W.kla_fn "<lambda>" q params body scope cl pm cv ctv) ⟨[v], []⟩ = pure [(r, v)] := by intros; rfl)
    (hn : x ≠ "__name__" := by decide) (hdb : (x == ("__debug__" : Str)) = false := by decide)
    (hst : starEach [e] X.env = (false, eval e X.env) :: starEach [] X.env := by rfl) :
    PE X (.Call (.Name x p) [e] [⟨some "key", .Lambda params body scope lp, kp⟩] pos) (tSortK K P (Tbs.q P) te) := by
  subst hK
  rw [← hq]
  exact pe_sortedK hg hm hv he hr TB code kb nodef hk hco hgen hnames hbind hn hdb hst
end J

/-! Dicts whose keys are whole numbers or texts. -/
namespace J
open PySem L2 Evl
def rDictP (K : PySem.W.Frag) : List V → Hp → VK → Prop := fun xs H Q => ∃ (a : Addr) (ps : List Addr) (kvs : List (Key × V)), xs = [.ref a] ∧ SqL K H a (ps.map V.ref) ∧ Paired (fun p kv => SqT K H p [kV kv.1, kv.2]) ps kvs ∧ ∀ p, H p = none → Q (.ref p) (upd H p (.dK (mergeK [] kvs)))
theorem call_dictPK {X : Cx} (K : PySem.W.Frag) (h : X.K = K) (hc : X.calm = true) : CallR X (.type "dict") (rDictP K) := h ▸ call_dictP hc
section
variable [Tbs] {K : PySem.W.Frag} {σ : L2.St} {G H : Hp} {ta tb tc : TE} {d d1 : D} {ds : List D} {x y : V}
theorem RpA.pairsK : ∀ {kvs : List (Key × V)} {vs : List V}, RpA K H vs (kvs.map fun kv => D.tup [kD kv.1, vD kv.2]) → (∀ kv ∈ kvs, scalV kv.2 = true) → ∃ ps : List Addr, vs = ps.map V.ref ∧ Paired (fun p kv => SqT K H p [kV kv.1, kv.2]) ps kvs
  | [], _, h, _ => by cases h; exact ⟨[], rfl, .nil⟩
  | kv :: kvs, _, h, hs => by
    cases h with
    | cons h1 h2 =>
      obtain ⟨ps, rfl, pr⟩ := RpA.pairsK h2 fun q hq => hs q (List.mem_cons_of_mem _ hq)
      obtain ⟨p, xs, rfl, hp, hx⟩ := h1.tup_of
      obtain ⟨v, w, rfl, r1, r2⟩ := hx.two
      have e1 := r1.key
      subst e1
      have e2 : w = kv.2 := by
        have h0 := hs kv List.mem_cons_self
        obtain ⟨k, v⟩ := kv
        cases v <;> first | (cases r2; rfl) | cases h0
      subst e2
      exact ⟨p :: ps, rfl, .cons (.of hp) pr⟩
theorem e_dictK {kvs : List (Key × V)} (ha : EvD K ta σ G (.lst ds)) (hd : ds = kvs.map fun kv => D.tup [kD kv.1, vD kv.2]) (hs : ∀ kv ∈ kvs, scalV kv.2 = true) : EvD K (tCB (rDictP K) (tCons ta tNil)) σ G (.dic (mergeK [] kvs)) :=
  e_cb (a_one ha) fun vs G1 H1 Q e1 e2 r k => by
    subst hd
    obtain ⟨v, rfl, rr⟩ := r.one
    obtain ⟨a, xs, rfl, h1, h2⟩ := rr.lst_of
    obtain ⟨ps, rfl, pr⟩ := (h2.ex e2).pairsK hs
    exact ⟨a, ps, kvs, rfl, .of (e2 _ _ h1), pr, fun p hp => k _ _ _ (Step.new e2 hp) (.dic upd_same)⟩
theorem e_dget2K {kvs : List (Key × V)} {k : Key} (ha : EvD K ta σ G (.dic kvs)) (hb : EvD K tb σ G (kD k)) (hc : EvD K tc σ G d1) (h1 : d1.flat = true) (hv : ∀ v, valV kvs k = some v → scalV v = true) :
    EvD K (tDGet2 ta tb tc) σ G (vD ((valV kvs k).getD d1.toV)) := fun H e Q q =>
  ha H e _ fun x G1 H1 s1 r1 => by
    obtain ⟨a, rfl, ha⟩ := r1.dic_of
    refine ⟨a, rfl, .inl ⟨kvs, .inl (s1.i _ _ ha)⟩, (hb.mono s1.g) H1 s1.i _ fun y G2 H2 s2 r2 => (hc.mono (s1.g.trans s2.g)) H2 s2.i _ fun z G3 H3 s3 r3 => ?_⟩
    have e2 := r2.key
    subst e2
    refine ⟨_, DGet.k (s3.i _ _ (s3.g _ _ (s2.g _ _ ha))), q _ G3 H3 ((s1.trans s2).trans s3) ?_⟩
    rw [(r3.flat h1).1]
    apply rp_vD
    cases w : valV kvs k with
    | some v => exact hv v w
    | none => cases d1 <;> first | rfl | cases h1
end
end J

/-! The head: defs by names, code tables. -/
namespace J
open PySem PySem.Spec PyProof.Rows L2
theorem fun_of {K : PySem.W.Frag} {x q : Str} {st : Stmt} {f : Addr} {fd : FuncData} (F : FunD K x q (defArgs st) (defBody st) (defScope st) [] [] f fd) : Fun K x q st f fd := by
  obtain ⟨⟨oc, od, dV, kV, doc, pm, an, cdv, ct, osl, e, lk, c, dv, kw⟩, kp⟩ := F
  rcases dv with ⟨_, rfl⟩ | ⟨z, _⟩
  · exact ⟨⟨oc, od, kV, doc, pm, an, cdv, ct, osl, e, lk, c⟩, kp⟩
  · exact absurd rfl z
theorem funL_of {K : PySem.W.Frag} {x q : Str} {st : Stmt} {p : He.Defn} {fd : FuncData} (F : FunD K x q (defArgs st) (defBody st) (defScope st) [] [] (He.fAd K p) fd) : FunL K x q st (He.fAd K p) fd (He.cT K p).1 := by
  obtain ⟨⟨oc, od, dV, kV, doc, pm, an, cdv, ct, osl, e, lk, c, dv, kw⟩, kp⟩ := F
  obtain ⟨cc, rfl⟩ := He.codeIn_ref c
  have hc : (He.cT K p).1 = cc := by
    show He.codeOf K p = cc
    unfold He.codeOf
    rw [lk, e]
  rw [hc]
  rcases dv with ⟨_, rfl⟩ | ⟨z, _⟩
  · exact ⟨⟨oc, od, kV, doc, pm, an, ct, osl, e, lk, c⟩, kp⟩
  · exact absurd rfl z
end J

/-! sum(d.values()) of whole numbers. -/
namespace J
open PySem PySem.Spec PyProof.Rows L2
def tSumV (te : TE) : TE := fun σ H Q => te σ H fun v H1 => ∃ d, ∃ kvs : List (Key × V), ∃ ns : List Int, v = .ref d ∧ H1 d = some (.dK kvs) ∧ kvs.map (·.2) = ns.map V.int ∧ Q (.int ns.sum) H1
section
variable {prog : Program} {w : World} {A : Around} {E : Value → Shared → Prop} {s : Shared} {d r : Addr} {K : Type} [DecidableEq K] {knd : KeyKind prog w K} {kvs : List (K × Value)} {ep : Nat} {Q : Value → Shared → Prop}
theorem sum_values (hh : A.handled = none) (hv : s.heap.IsValuesView r d) (hd : s.heap.DictAt knd d kvs ep) (val : Nat → Int) (hval : ∀ (i : Nat) (v : Value), (∃ k, kvs[i]? = some (k, v)) → ∃ t : Tok, v = Value.int (val i) t)
    (h : ∀ (h' : Heap) (tk : Nat) (t' : Tok), (∀ b o, s.heap.get? b = some o → h'.get? b = some o) → Q (.int (preSum val kvs.length) t') { s with heap := h', toks := tk }) : wpAny (model prog w) A (call (.builtin "sum") [.ref r]) Q E s := by
  have src := PySem.W.kdl_values (prog := prog) (w := w) (r := r) (d := d) (knd := knd) (kvs := kvs) (ep := ep)
  have ok : s.heap.IsValuesView r d ∧ s.heap.DictAt knd d kvs ep := ⟨hv, hd⟩
  refine call_sum_walkAnyS ?_
  obtain ⟨oI, St, start, walk, st0⟩ := src.iter A.in1 s hh ok
  refine start _ _ ⟨s.heap.objs.size, _, _, _, kvs.length, _, _, val, rfl, walk.toS, st0, fun b hb => ?_, hval, fun s1 t1 mv => ?_⟩
  · have up : (s.heap.push oI).objs.size = s.heap.objs.size + 1 := size_push' ..
    rcases List.mem_cons.mp hb with z | z
    · rw [z]
      show _ < (s.heap.push oI).objs.size
      omega
    · rw [List.mem_singleton.mp z]
      show _ < (s.heap.push oI).objs.size
      have dl : d < s.heap.objs.size := (src.there s.heap ok).2
      rw [up]
      exact Nat.lt_succ_of_lt dl
  · rw [Moved.eq_with mv]
    exact h s1.heap s1.toks t1 fun b o e => mv.heap b o (fun z => absurd (Heap.lt_size e) (by rw [List.mem_singleton.mp z]; exact Nat.lt_irrefl _)) (Heap.get?_push_of_some _ e)
end
theorem preSum_list : ∀ ns : List Int, preSum (fun i => ns.getD i 0) ns.length = ns.sum
  | [] => rfl
  | z :: ns => by
    rw [List.length_cons, PySem.W.kdu_shift, List.sum_cons, ← preSum_list ns]
    rfl
theorem kv_ints : ∀ {kvs : List (Key × V)} {vs : List (Key × Value)} {ns : List Int}, KV kvs vs → kvs.map (·.2) = ns.map V.int → vs.length = ns.length ∧ ∀ (i : Nat) (u : Value), (∃ k, vs[i]? = some (k, u)) → ∃ t : Tok, u = Value.int (ns.getD i 0) t
  | [], _, ns, h, e => by
    cases h
    cases ns with
    | nil => exact ⟨rfl, fun i u ⟨k, hk⟩ => by simp at hk⟩
    | cons _ _ => cases e
  | p :: kvs, _, ns, h, e => by
    cases h with
    | cons h1 h2 =>
      cases ns with
      | nil => cases e
      | cons z ns =>
        rw [List.map_cons, List.map_cons] at e
        injection e with e1 e2
        obtain ⟨hl, hf⟩ := kv_ints h2 e2
        refine ⟨by rw [List.length_cons, List.length_cons, hl], fun i u ⟨k, hk⟩ => ?_⟩
        cases i with
        | zero =>
          have hk := Option.some.inj hk
          have r : RelV p.2 _ := h1.2
          rw [e1, hk] at r
          obtain ⟨t, ht⟩ := r
          exact ⟨t, ht⟩
        | succ i => exact hf i u ⟨k, hk⟩
section
variable {X : Cx}
theorem pe_sumV {x : Str} {e : Expr} {te : TE} {p ap cp pos : Pos} (hc : X.calm = true) (hg : Gl X x) (hm : X.mg x = none) (hv : bootBuiltins x = some (.builtin "sum")) (he : PE X e te) (hbase : attributeBase e "values" X.env (eval e X.env) = eval e X.env := by rfl) (hline : (ap.endLine == cp.line) = true := by rfl)
    (hn : x ≠ "__name__" := by decide) (hdb : (x == ("__debug__" : Str)) = false := by decide)
    (hst : starEach [.Call (.Attribute e "values" ap) [] [] cp] X.env = (false, eval (.Call (.Attribute e "values" ap) [] [] cp) X.env) :: starEach [] X.env := by rfl) (hpl : (backTo pos (starEach [] X.env)).any (·.1) = false := by rfl) :
    PE X (.Call (.Name x p) [.Call (.Attribute e "values" ap) [] [] cp] [] pos) (tSumV te) := by
  refine ⟨fun pins s σ H Q I h => ?_⟩
  refine wpAny_Call_Name_kw (ld_blt I hg hm hv ?_ hn hdb)
  refine PyProof.Rows.callWith_builtin1 ?_ hst hpl
  rw [hst]
  show wpAny _ _ (spliced ((false, eval (.Call (.Attribute e "values" ap) [] [] cp) X.env) :: backTo pos (starEach [] X.env))) _ _ s
  refine Calls.spliced_cons (wpAny_Call_method (T := "dict") (id := "dict.values") hbase rfl hline F.plainAttrs_dict F.slot_dict_values F.type_dict_values (thn (he.run pins s σ H _ I h) fun u s1 ⟨v, H1, I1, rx, d, kvs, ns, ev, hd, hns, q⟩ => ?_))
  subst ev
  obtain rfl : u = Value.ref d := rx
  obtain ⟨z, hs, vs, kv, hof⟩ := I1.hok d _ hd
  obtain ⟨ep, hat⟩ := hof.dictAt
  refine ⟨hof.typeIs, hof.mapOf.noDict, ?_⟩
  have I2 : Inv X pins σ H1 { s1 with heap := s1.heap.push { cls := .type "dict_values", data := .fields #[.ref d] } } := I1.kept (t' := s1.toks) fun b ob q => Heap.get?_push_of_some _ q
  have vals : ∀ (i : Nat) (u : Value), (∃ k, vs[i]? = some (k, u)) → ∃ t : Tok, u = Value.int (ns.getD i 0) t := by
    exact (kv_ints kv hns).2
  show wpAny _ _ (callWith cp (.builtin "dict.values") [.ref d] [] []) _ X.xe s1
  refine method_meetsIn F.slot_dict_values F.entry_dict_values rfl (PySem.evalArgs_none ⟨rfl, hof.typeIs, F.args_dict_values_1 _, _, meets_dict_values (mixKind X.prog X.w) d hs, ⟨vs, hof⟩, ?_⟩)
  refine Calls.spliced_nil ?_
  refine sum_values (d := d) (knd := mixKind X.prog X.w) (kvs := vs) (ep := ep) (I.ok.hd hc) ⟨_, Heap.get?_push_size _ rfl, rfl, rfl⟩ (hat.push _) (fun i => ns.getD i 0) vals fun h' tk t' keep => ?_
  have hsum : preSum (fun i => ns.getD i 0) vs.length = ns.sum := by
    rw [(kv_ints kv hns).1]
    exact preSum_list ns
  rw [hsum]
  exact ⟨.int _, H1, I2.kept keep, ⟨_, rfl⟩, q⟩
end
section
variable [Tbs] {K : PySem.W.Frag} {σ : L2.St} {G H : Hp} {te tb : TE} {d : D} {Dn : Ends}
theorem e_sumV {kvs : List (Key × V)} {ns : List Int} (ha : EvD K te σ G (.dic kvs)) (h : kvs.map (·.2) = ns.map V.int) : EvD K (tSumV te) σ G (.int ns.sum) := fun H e Q q =>
  ha H e _ fun v G1 H1 s r => by
    obtain ⟨a, rfl, hd⟩ := r.dic_of
    exact ⟨a, kvs, ns, rfl, s.i _ _ hd, h, q _ G1 H1 s (.int _)⟩
/-- p[k] = v, p an own dict with int or text keys, v may read it -/
theorem s_dputKO {i : Nat} {p : Addr} {kvs : List (Key × V)} {k : Key} (e : Ex G H) (hp : G p = none) (hx : H p = some (.dK kvs)) (hi : σ[i]? = some (some (.ref p))) (hv : EvD K te σ (upd G p (.dK kvs)) d) (hf : d.flat = true) (hk : EvD K tb σ G (kD k)) (hz : kvs.length < 1000000)
    (c : ∀ G1 H1, Step G H G1 H1 → G1 p = none → Dn.nx σ (upd H1 p (.dK (putK kvs k d.toV)))) : sDPut (tVar i) tb te Dn σ H :=
  hv H (ex_own e hx) _ fun v G1 H1 s1 r1 => by
    obtain ⟨G2, s2, g2, x2, _⟩ := s1.thaw hp hx
    refine ⟨_, hi, (hk.mono s2.g) H1 s2.i _ fun y G3 H3 s3 r3 => ?_⟩
    have e3 := r3.key
    subst e3
    obtain ⟨g4, x4⟩ := s3.keep g2 x2
    rw [(r1.flat hf).1]
    exact ⟨p, _, rfl, DPut.k x4 (by rw [sizeLine_eq]; omega), c G3 H3 (s2.trans s3) g4⟩
end
end J

/-! Dicts with tuple keys: copies, setdefault, pop, update; sorted pairs. -/
namespace J
open PySem
section
variable {prog : Program} {w : World} {A : Around} {E : Value → Shared → Prop} {s : Shared} {K : Type} [DecidableEq K] {knd : HeapKind prog w K}
theorem call_dict_dictH {o : Addr} {more : List (K × Addr × Value)} {Q : Value → Shared → Prop} (st : knd.Stays) (hu : knd.room A.in1.in1) (hoS : (o == sysModules) = false) (ho : s.heap.DictOfH knd o more) (hty : ∀ x ∈ more, s.TypeIs (.ref x.2.1) "tuple") (hap : (more.map fun x => knd.hash x.1).Nodup) (hsz : more.length ≤ sizeLine)
    (h : ∀ h', h'.DictOfH knd s.heap.objs.size more → Heap.SameBut s.heap.objs.size (s.heap.push { cls := .type "dict", data := .dict #[] }) h' → Q (.ref s.heap.objs.size) { s with heap := h' }) :
    wpAny (model prog w) A (call (.type "dict") [.ref o]) Q E s := by
  refine callType_codes (Q₁ := fun obj s₁ => obj = .ref s.heap.objs.size ∧ s₁ = { s with heap := s.heap.push { cls := .type "dict", data := .dict #[] } }) F.kt_called_dict (F.kt_typeCall_dict_1 _) F.entry_dict_init (kt_code_dict_new _ ⟨rfl, rfl⟩) ?_
  rintro obj s₁ ⟨rfl, rfl⟩
  have hnew : (s.heap.push { cls := .type "dict", data := .dict #[] }).DictOfH knd s.heap.objs.size [] := Heap.DictOfH.new s.heap
  have hdo : s.heap.objs.size ≠ o := by
    obtain ⟨_, _, _, hg, _⟩ := ho
    exact fun e => absurd (Heap.lt_size hg) (by rw [e]; exact Nat.lt_irrefl _)
  have hnn := ho.nodup
  have ho' : (s.heap.push { cls := .type "dict", data := .dict #[] }).DictOfH knd o more := by
    obtain ⟨oo, eso, epo, hoo, hco, hdo', he, his, hn⟩ := ho
    exact ⟨oo, eso, epo, Heap.get?_push_of_some _ hoo, hco, hdo', he, fun y hy => st.stays (fun b o vs n eb _ => Heap.get?_push_of_some _ eb) (his y hy), hn⟩
  refine ⟨hnew.typeIs, F.args_dict_init_2 _ _, ?_⟩
  unfold Builtin.«dict.__init__»
  refine wpAny_bind ?_
  unfold Builtin.Dict.selfAndRest
  refine wpAny_bind (wpAny_notOrdered_dict hnew.typeIs ?_)
  show wpAny _ _ (pure (s.heap.objs.size, [Value.ref o])) _ _ _
  refine wpAny_pure ?_
  show wpAny _ _ (Builtin.Dict.updateFrom "dict.__init__" s.heap.objs.size (.ref o) [] .none) _ _ _
  refine updateFrom_dictH (A := A.in1) (knd := knd) .none hu hdo hoS hnew ho' (.inr ⟨fun x hx => ?_, hap⟩) (by simpa using hsz) fun h' hd' _ hs' => ?_
  · obtain ⟨ob, h1, h2⟩ := hty x hx
    exact ⟨ob, Heap.get?_push_of_some _ h1, h2⟩
  · rw [storedAllH_nil_of_nodup more hnn] at hd'
    exact ⟨rfl, h h' hd' hs'⟩
end

/-! ### the hashes of pairs of small numbers are unlike -/
inductive Bt where
  | l
  | n (a : Bt) (k : Nat) (b : Bt)
def Bt.toL : Bt → List Nat
  | .l => []
  | .n a k b => a.toL ++ k :: b.toL
def Bt.ins (x : Nat) : Bt → Option Bt
  | .l => some (.n .l x .l)
  | .n a k b => if x < k then (match a.ins x with | some a' => some (.n a' k b) | none => none) else if k < x then (match b.ins x with | some b' => some (.n a k b') | none => none) else none
def Bt.all : List Nat → Bt → Option Bt
  | [], t => some t
  | x :: xs, t => match t.ins x with
    | some t' => Bt.all xs t'
    | none => none
theorem Bt.ins_ok {x : Nat} : ∀ {t t' : Bt}, t.ins x = some t' → t.toL.Pairwise (· < ·) → t'.toL.Pairwise (· < ·) ∧ t'.toL.Perm (x :: t.toL)
  | .l, t', h, _ => by
    cases Option.some.inj h
    exact ⟨List.pairwise_cons.mpr ⟨(fun _ h => nomatch h), .nil⟩, .refl _⟩
  | .n a k b, t', h, hs => by
    obtain ⟨s1, s2, s3⟩ := List.pairwise_append.mp (show (a.toL ++ k :: b.toL).Pairwise (· < ·) from hs)
    obtain ⟨s4, s5⟩ := List.pairwise_cons.mp s2
    unfold Bt.ins at h
    by_cases h1 : x < k
    · rw [if_pos h1] at h
      cases q : a.ins x with
      | none => rw [q] at h; cases h
      | some a' =>
        rw [q] at h
        cases Option.some.inj h
        obtain ⟨p1, p2⟩ := Bt.ins_ok q s1
        refine ⟨List.pairwise_append.mpr ⟨p1, s2, fun u hu v hv => ?_⟩, ?_⟩
        · rcases List.mem_cons.mp (p2.mem_iff.mp hu) with e | hu
          · subst e
            rcases List.mem_cons.mp hv with e | hv
            · rw [e]; exact h1
            · exact Nat.lt_trans h1 (s4 v hv)
          · exact s3 u hu v hv
        · exact (p2.append_right _)
    · rw [if_neg h1] at h
      by_cases h2 : k < x
      · rw [if_pos h2] at h
        cases q : b.ins x with
        | none => rw [q] at h; cases h
        | some b' =>
          rw [q] at h
          cases Option.some.inj h
          obtain ⟨p1, p2⟩ := Bt.ins_ok q s5
          refine ⟨List.pairwise_append.mpr ⟨s1, List.pairwise_cons.mpr ⟨fun v hv => ?_, p1⟩, fun u hu v hv => ?_⟩, ?_⟩
          · rcases List.mem_cons.mp (p2.mem_iff.mp hv) with e | hv
            · rw [e]; exact h2
            · exact s4 v hv
          · rcases List.mem_cons.mp hv with e | hv
            · rw [e]; exact s3 u hu k List.mem_cons_self
            · rcases List.mem_cons.mp (p2.mem_iff.mp hv) with e | hv
              · rw [e]; exact Nat.lt_trans (s3 u hu k List.mem_cons_self) h2
              · exact s3 u hu v (List.mem_cons_of_mem _ hv)
          · show (a.toL ++ k :: b'.toL).Perm (x :: (a.toL ++ k :: b.toL))
            refine (((p2.cons k).trans (.swap x k _)).append_left a.toL).trans ?_
            exact List.perm_middle
      · rw [if_neg h2] at h
        cases h
theorem Bt.all_ok : ∀ {xs : List Nat} {t : Bt}, (Bt.all xs t).isSome = true → t.toL.Pairwise (· < ·) → (xs ++ t.toL).Nodup
  | [], t, _, hs => hs.imp fun h => Nat.ne_of_lt h
  | x :: xs, t, h, hs => by
    unfold Bt.all at h
    cases q : t.ins x with
    | none => rw [q] at h; cases h
    | some t' =>
      rw [q] at h
      obtain ⟨p1, p2⟩ := Bt.ins_ok q hs
      have h3 := Bt.all_ok (xs := xs) (t := t') h p1
      have h4 : (xs ++ t'.toL).Perm (x :: (xs ++ t.toL)) := (p2.append_left xs).trans List.perm_middle
      exact h4.nodup_iff.mp h3
theorem inj_of_nodup {α β : Type} {f : α → β} : ∀ {l : List α}, (l.map f).Nodup → ∀ a ∈ l, ∀ b ∈ l, f a = f b → a = b
  | [], _, a, ha, _, _, _ => nomatch ha
  | x :: l, h, a, ha, b, hb, e => by
    rw [List.map_cons] at h
    obtain ⟨h1, h2⟩ := List.nodup_cons.mp h
    rcases List.mem_cons.mp ha with ea | ha'
    · rcases List.mem_cons.mp hb with eb | hb'
      · rw [ea, eb]
      · subst ea
        exact absurd (by rw [e]; exact List.mem_map_of_mem hb') h1
    · rcases List.mem_cons.mp hb with eb | hb'
      · subst eb
        exact absurd (by rw [← e]; exact List.mem_map_of_mem ha') h1
      · exact inj_of_nodup h2 a ha' b hb' e
def hp2 (n t : Nat) : Int := reduceHash (Builtin.Tuple.tupleHashOf [hashInt n, hashInt t])
def pairs200 : List (Nat × Nat) := (List.range 200).flatMap fun n => (List.range 20).map fun t => (n, t)
def hpN (x : Nat × Nat) : Nat := (hp2 x.1 x.2 + 9223372036854775808).toNat
theorem pairs_apart : (Bt.all (pairs200.map hpN) .l).isSome = true := by decide +kernel
theorem hp2_inj {n t n' t' : Nat} (h1 : n < 200) (h2 : t < 20) (h3 : n' < 200) (h4 : t' < 20) (e : hp2 n t = hp2 n' t') : n = n' ∧ t = t' := by
  have nd := Bt.all_ok pairs_apart (.nil)
  rw [show (Bt.l).toL = [] from rfl, List.append_nil] at nd
  have hm : ∀ n t, n < 200 → t < 20 → (n, t) ∈ pairs200 := fun n t h1 h2 => List.mem_flatMap.mpr ⟨n, List.mem_range.mpr h1, List.mem_map.mpr ⟨t, List.mem_range.mpr h2, rfl⟩⟩
  have z := inj_of_nodup nd (n, t) (hm n t h1 h2) (n', t') (hm n' t' h3 h4) (by show (hp2 n t + _).toNat = (hp2 n' t' + _).toNat; rw [e])
  exact ⟨congrArg Prod.fst z, congrArg Prod.snd z⟩

open PySem.Spec PyProof.Rows L2 Evl
/-! ### rules -/
def natK (x : Nat × Nat) : List Key := [.inl (x.1 : Int), .inl (x.2 : Int)]
/-- keys that are pairs of small numbers -/
def Small (ks : List (List Key)) : Prop := ∃ l : List (Nat × Nat), ks = l.map natK ∧ (∀ x ∈ l, x.1 < 200 ∧ x.2 < 20) ∧ l.Nodup
theorem small_apart {P : Program} {w : World} {ks : List (List Key)} (h : Small ks) : (ks.map fun k => (tupleKind (mixKind P w)).hash k).Nodup := by
  obtain ⟨l, rfl, h1, h2⟩ := h
  rw [List.map_map]
  have e : ((fun k => (tupleKind (mixKind P w)).hash k) ∘ natK) = fun x : Nat × Nat => hp2 x.1 x.2 := rfl
  rw [e]
  refine List.pairwise_map.mpr (h2.imp_of_mem fun {a b} ha hb hab z => hab ?_)
  obtain ⟨e1, e2⟩ := hp2_inj (h1 a ha).1 (h1 a ha).2 (h1 b hb).1 (h1 b hb).2 z
  exact Prod.ext e1 e2
theorem kt_keys {H : Hp} : ∀ {kvs : List (List Key × V)} {xs : List (List Key × Addr × Value)}, KT H kvs xs → kvs.map (·.1) = xs.map (·.1)
  | [], _, r => by cases r; rfl
  | _ :: _, _, r => by
    cases r with
    | cons h t => rw [List.map_cons, List.map_cons, h.1, kt_keys t]
theorem kt_tups {H : Hp} : ∀ {kvs : List (List Key × V)} {xs : List (List Key × Addr × Value)}, KT H kvs xs → ∀ x ∈ xs, ∃ ys, H x.2.1 = some (.tup ys)
  | [], _, r => by cases r; exact fun x hx => nomatch hx
  | _ :: _, _, r => by
    cases r with
    | cons h t =>
      intro x hx
      rcases List.mem_cons.mp hx with e | hx
      · rw [e]; exact ⟨_, h.2.1⟩
      · exact kt_tups t x hx
/-- dict(d): a copy, d's keys pairs of small numbers -/
def rDictC : List V → Hp → VK → Prop := fun xs H Q => ∃ (a : Addr) (kvs : List (List Key × V)), xs = [.ref a] ∧ H a = some (.dT kvs) ∧ Small (kvs.map (·.1)) ∧ ∀ p, H p = none → Q (.ref p) (upd H p (.dT kvs))
theorem call_dictC {X : Cx} (hu : X.A.units + 64 < cLine) : CallR X (.type "dict") rDictC := by
  intro pins s σ H xs us Q I r q
  obtain ⟨a, kvs, rfl, hd, hs, q⟩ := q
  obtain ⟨u, rfl, rx⟩ := vals1 r
  cases rx
  obtain ⟨z, lo, xs, rel, dd⟩ := dt_of I.hok hd
  have hlen : xs.length = kvs.length := (Paired.length rel).symm
  have st : (tupleKind (mixKind X.prog X.w)).Stays := tupleKind_stays
  refine call_dict_dictH (knd := tupleKind (mixKind X.prog X.w)) st ?_ lo dd (fun x hx => ?_) ?_ (by rw [hlen]; exact z) fun h' hd' sb => ?_
  · show X.A.in1.in1.units < cLine
    have z : X.A.in1.in1.units = X.A.units + 1 + 1 := rfl
    rw [z]
    omega
  · obtain ⟨ys, hy⟩ := kt_tups rel x hx
    obtain ⟨its, rv, p, hz⟩ := I.tuple (SqT.of hy)
    exact p.typeIs
  · have e := small_apart (P := X.prog) (w := X.w) hs
    rw [kt_keys rel, List.map_map] at e
    exact e
  · have hm : (s.heap.objs.size == sysModules) = false := beq_eq_false_iff_ne.mpr (Nat.ne_of_gt I.big)
    obtain ⟨o, es, ep, hq', h2, h3, h4, _, h5⟩ := hd'
    refine ⟨.ref s.heap.objs.size, upd H s.heap.objs.size (.dT kvs), I.laid (t' := s.toks) (fun b u e => (sb.2 b (Nat.ne_of_lt (Heap.lt_size e))).trans (Heap.get?_push_of_some _ e)) (Nat.le_refl _) ⟨z, hm, xs, rel.keeps fun c ys ec => ?_, o, es, ep, hq', h2, h3, h4, h5⟩, rfl, q _ (I.hok.fresh (Nat.le_refl _))⟩
    rw [upd_ne (ne_of_none ec (I.hok.fresh (Nat.le_refl _)))]
    exact ec
/-- d.setdefault(k, v), d's keys tuples -/
def tDSetdT (td ty tx : TE) : TE := fun σ H Q => td σ H fun x H1 => ∃ a, x = .ref a ∧ IsD H1 a ∧ ty σ H1 fun y H2 => tx σ H2 fun z H3 => ∃ (kvs : List (List Key × V)) (k : List Key) (b : Addr), H3 a = some (.dT kvs) ∧ y = .ref b ∧ H3 b = some (.tup (k.map kV)) ∧ kvs.length < sizeLine ∧
  (∀ v, valV kvs k = some v → Q v H3) ∧ (valV kvs k = none → Q z (upd H3 a (.dT (putK kvs k z))))
theorem dT_put {X : Cx} {pins : List (Addr × Obj)} {σ : L2.St} {H : Hp} {s : Shared} {a b : Addr} {kvs : List (List Key × V)} {k : List Key} {d : V} {r : Value} {h' : Heap} {t' : Nat} {xs : List (List Key × Addr × Value)} (I : Inv X pins σ H s) (e : H a = some (.dT kvs)) (eb : H b = some (.tup (k.map kV))) (rel : KT H kvs xs) (hd : (a == sysModules) = false) (hl : kvs.length < sizeLine) (rd : RelV d r)
    (dd' : h'.DictOfH (tupleKind (mixKind X.prog X.w)) a (storedH xs k b r)) (hs : Heap.SameBut a s.heap h') : Inv X pins σ (upd H a (.dT (putK kvs k d))) { s with heap := h', toks := t' } := by
  obtain ⟨q, es, ep, hq, h2, h3, h4, _, h5⟩ := dd'
  have hz : (putK kvs k d).length ≤ sizeLine := by have := length_putK kvs k d; omega
  refine d_write I (by rw [e]; exact True.intro) hs ⟨q, hq⟩ ⟨hz, hd, _, (rel.put k eb rd).keeps fun c ys ec => ?_, q, es, ep, hq, h2, h3, h4, h5⟩
  rw [upd_ne (ne_of ec e (fun z => nomatch z))]
  exact ec
theorem pe_dsetdT {X : Cx} {o e f : Expr} {td ty tx : TE} {apos cpos : Pos} (hu : X.A.units + 1 < cLine) (ho : PE X o td) (he : PE X e ty) (hf : PE X f tx) (m : M2 X o "setdefault" apos e f cpos) : PE X (.Call (.Attribute o "setdefault" apos) [e, f] [] cpos) (tDSetdT td ty tx) := by
  refine ⟨fun pins s σ H Q I h => ?_⟩
  refine wpAny_Call_method m.base m.few m.line PySem.F.plainAttrs_dict PySem.F.slot_dict_setdefault PySem.F.type_dict_setdefault (thn (ho.run pins s σ H _ I h) fun u s1 ⟨x, H1, I1, rx, a, ex, d, q1⟩ => ?_)
  subst ex
  obtain rfl : u = Value.ref a := rx
  obtain ⟨t1, t2, _⟩ := isD_at I1 d
  refine ⟨t1, t2, ?_⟩
  rw [m.trees]
  refine Calls.callWith_builtin rfl (Calls.evalArgs_plain (Calls.spliced_cons (thn (he.run pins s1 σ H1 _ I1 q1) fun iv s2 ⟨y, H2, I2, ry, q2⟩ =>
    Calls.spliced_cons (thn (hf.run pins s2 σ H2 _ I2 q2) fun fv s3 ⟨z, H3, I3, rz, kvs, k, b, ea, ey, eb, hl, q3, q4⟩ => Calls.spliced_nil ?_))))
  subst ey
  cases (show iv = Value.ref b from ry)
  obtain ⟨z0, hd, xs, rel, dd⟩ := dt_of I3.hok ea
  have hz : xs.length ≤ sizeLine := by rw [← Paired.length rel]; exact z0
  refine call_setdefault_heap (hsz := hz) (tupleKind_room_in1 hu) (key_of I3.hok eb) hd dd (fun p hp => ?_) fun hn h' dd' hs => ?_
  · have q0 := rel.val k
    rw [hp] at q0
    cases l : valV kvs k with
    | none => rw [l] at q0; exact (show False from q0).elim
    | some v =>
      rw [l] at q0
      exact ⟨v, _, I3.tok _, q0, q3 v l⟩
  · have q0 := rel.val k
    rw [hn] at q0
    cases l : valV kvs k with
    | some v => rw [l] at q0; exact (show False from q0).elim
    | none => exact ⟨z, _, dT_put I3 ea eb rel hd hl rz dd' hs, rz, q4 l⟩
end J

/-! Own dicts by copies, setdefault; sorted positions. -/
namespace J
open PySem PySem.Spec PyProof.Rows L2 Evl
def natP (x : Nat × Nat) : D := .tup [.int x.1, .int x.2]
def leP (a b : Nat × Nat) : Bool := decide (a.1 < b.1 ∨ (a.1 = b.1 ∧ a.2 ≤ b.2))
/-- positions, rising -/
def riseL (l : List (Nat × Nat)) : List (Nat × Nat) := l.mergeSort leP
theorem riseL_perm (l : List (Nat × Nat)) : (riseL l).Perm l := List.mergeSort_perm _ _
theorem riseL_sorted (l : List (Nat × Nat)) : (riseL l).Pairwise fun a b => leP a b = true := by
  refine List.pairwise_mergeSort (fun a b c h1 h2 => ?_) (fun a b => ?_) l
  · have h1 := of_decide_eq_true h1
    have h2 := of_decide_eq_true h2
    exact decide_eq_true (by omega)
  · by_cases h : leP a b = true
    · rw [h]; rfl
    · have h := of_decide_eq_false (by simpa using h : leP a b = false)
      have : leP b a = true := decide_eq_true (by omega)
      rw [this]; simp
abbrev cast2 (x : Nat × Nat) : Int × Int := ((x.1 : Int), (x.2 : Int))
theorem swoL : SrtO.Swo lexB := by
  refine ⟨fun x y h => ?_, fun x y z h1 h2 => ?_⟩
  · have a := SrtO.lexB_iff.mp h
    refine SrtO.lexB_no.mpr ?_
    omega
  · have a := SrtO.lexB_no.mp h1
    have b := SrtO.lexB_no.mp h2
    refine SrtO.lexB_no.mpr ?_
    omega
theorem lexB_eqv {x y : Int × Int} : SrtO.eqv lexB x y = true → x = y := fun h => by
  obtain ⟨h1, h2⟩ := SrtO.eqv_iff.mp h
  have a := SrtO.lexB_no.mp h1
  have b := SrtO.lexB_no.mp h2
  exact Prod.ext (by omega) (by omega)
theorem stb_perm {l m : List (Int × Int)} (p : l.Perm m) : SrtO.Stb lexB l m := ⟨p, fun x => by
  have key : ∀ l : List (Int × Int), l.filter (SrtO.eqv lexB x) = List.replicate (l.filter (SrtO.eqv lexB x)).length x := fun l =>
    List.eq_replicate_iff.mpr ⟨rfl, fun b hb => (lexB_eqv (List.mem_filter.mp hb).2).symm⟩
  rw [key l, key m, (p.filter _).length_eq]⟩
theorem rise_eq {zs : List (Int × Int)} {l : List (Nat × Nat)} (h1 : SrtO.Srtd lexB zs) (h2 : zs.Perm (l.map cast2)) : zs = (riseL l).map cast2 := by
  refine SrtO.stb_uniq swoL h1 ?_ (stb_perm (h2.trans ((riseL_perm l).map _).symm))
  refine List.pairwise_map.mpr ((riseL_sorted l).imp fun {a b} h => SrtO.lexB_no.mpr ?_)
  have h := of_decide_eq_true h
  have e1 : (cast2 a).1 = (a.1 : Int) := rfl
  have e2 : (cast2 a).2 = (a.2 : Int) := rfl
  have e3 : (cast2 b).1 = (b.1 : Int) := rfl
  have e4 : (cast2 b).2 = (b.2 : Int) := rfl
  omega
section
variable [Tbs] {K : PySem.W.Frag} {σ : L2.St} {G G0 H0 G1 H : Hp} {ta tb tc te tx : TE} {d d1 d2 d3 : D} {ds es : List D} {x y v : V} {Dn : Ends} {tz : TS}
/-- sorted(d), d's keys positions -/
theorem f_sortedDN {kvs : List (List Key × V)} {l : List (Nat × Nat)} (ha : EvD K ta σ G (.tab kvs)) (hk : kvs.map (·.1) = l.map natK) : EvF K (tCB rSortedDT (tCons ta tNil)) σ G ((riseL l).map natP) := fun H e Q q =>
  a_one ha H e _ fun vs G1 H1 s1 r => by
    obtain ⟨v, rfl, rr⟩ := r.one
    obtain ⟨a, rfl, h1⟩ := rr.tab_of
    refine ⟨a, kvs, l.map cast2, rfl, s1.i _ _ h1, by rw [hk, List.map_map]; rfl, fun p zs hp h2 h3 h4 => ?_⟩
    have e3 := rise_eq h2 h3.perm
    have ex : ∀ (zs : List (Addr × Int × Int)), (∀ z ∈ zs, H1 z.1 = some (.tup [.int z.2.1, .int z.2.2])) → ∀ G2, Ex G2 H1 → ∃ G3, Step G2 H1 G3 H1 ∧ RpA K G3 (zs.map fun z => V.ref z.1) (zs.map fun z => D.tup [.int z.2.1, .int z.2.2]) := by
      intro zs hz
      induction zs with
      | nil => intro G2 e2; exact ⟨G2, Step.refl e2, .nil⟩
      | cons z zs ih =>
        intro G2 e2
        obtain ⟨G3, s3, r3⟩ := ih (fun z hz' => hz z (List.mem_cons_of_mem _ hz')) G2 e2
        have hz0 := hz z List.mem_cons_self
        have s4 := Step.tup s3.i hz0
        exact ⟨_, s3.trans s4, .cons (.tup upd_same (.cons (.int _) (.cons (.int _) .nil))) (r3.ex s4.g)⟩
    obtain ⟨G3, s3, r3⟩ := ex zs h4 G1 s1.i
    have e5 : (zs.map fun z => D.tup [.int z.2.1, .int z.2.2]) = (riseL l).map natP := by
      have e6 : (zs.map fun z => D.tup [.int z.2.1, .int z.2.2]) = (zs.map (·.2)).map fun k => D.tup [.int k.1, .int k.2] := by rw [List.map_map]; rfl
      rw [e6, e3, List.map_map]
      rfl
    rw [e5] at r3
    exact q p _ G3 _ ((s1.trans s3).trans (Step.own s3.i hp)) (s1.pre hp) (Step.back s3.i hp) upd_same r3
theorem RpA.pos : ∀ {l : List (Nat × Nat)} {vs : List V}, RpA K H vs (l.map natP) → vs.map (kOf H) = l.map cast2 ∧ ∀ x ∈ vs, ∃ t, x = .ref t ∧ H t = some (.tup [.int (kOf H x).1, .int (kOf H x).2])
  | [], _, h => by cases h; exact ⟨rfl, fun x hx => nomatch hx⟩
  | p :: l, _, h => by
    cases h with
    | cons h1 h2 =>
      obtain ⟨a, xs, rfl, ha, hx⟩ := h1.tup_of
      obtain ⟨u, w, rfl, ru, rw'⟩ := hx.two
      have e1 := ru.int_of
      have e2 := rw'.int_of
      subst e1 e2
      obtain ⟨e3, e4⟩ := RpA.pos h2
      have ek : kOf H (.ref a) = cast2 p := kOf_ref ha
      refine ⟨by rw [List.map_cons, List.map_cons, e3, ek], fun x hx => ?_⟩
      rcases List.mem_cons.mp hx with rfl | hx
      · exact ⟨a, rfl, by rw [ek]; exact ha⟩
      · exact e4 x hx
theorem RpA.of_pos : ∀ {l : List (Nat × Nat)} {vs : List V}, vs.map (kOf H) = l.map cast2 → (∀ x ∈ vs, ∃ t, x = .ref t ∧ H t = some (.tup [.int (kOf H x).1, .int (kOf H x).2])) → RpA K H vs (l.map natP)
  | [], [], _, _ => .nil
  | [], _ :: _, h, _ => nomatch h
  | _ :: _, [], h, _ => nomatch h
  | p :: l, v :: vs, h, hx => by
    rw [List.map_cons, List.map_cons] at h
    injection h with h1 h2
    obtain ⟨t, rfl, ht⟩ := hx v List.mem_cons_self
    rw [h1] at ht
    exact .cons (.tup ht (.cons (.int _) (.cons (.int _) .nil))) (RpA.of_pos h2 fun x hx' => hx x (List.mem_cons_of_mem _ hx'))
theorem kOf_ex {A B : Hp} (e : Ex A B) {x : V} {t : Addr} {a b : Int} (h : x = .ref t) (ht : A t = some (.tup [.int a, .int b])) : kOf B x = kOf A x := by
  subst h
  rw [kOf_ref ht, kOf_ref (e _ _ ht)]
/-- sorted(xs), xs positions -/
theorem f_sortedP {l : List (Nat × Nat)} (ha : EvD K ta σ G (.lst (l.map natP))) : EvF K (tCB (rSortedPO K) (tCons ta tNil)) σ G ((riseL l).map natP) := fun H e Q q =>
  a_one ha H e _ fun vs G1 H1 s1 r => by
    obtain ⟨v, rfl, rr⟩ := r.one
    obtain ⟨a, xs, rfl, h1, h2⟩ := rr.lst_of
    obtain ⟨e1, e2⟩ := h2.pos
    have ek : ∀ x ∈ xs, kOf H1 x = kOf G1 x := fun x hx => let ⟨t, h, ht⟩ := e2 x hx; kOf_ex s1.i h ht
    refine ⟨a, xs, kOf G1, rfl, .of (s1.i _ _ h1), fun x hx => ?_, fun ys p h3 h4 hp => ?_⟩
    · obtain ⟨t, h, ht⟩ := e2 x hx
      exact ⟨t, h, s1.i _ _ ht⟩
    · have hm : ys.map (kOf G1) = (riseL l).map cast2 := by
        refine rise_eq (SrtO.srtd_map h3) ?_
        rw [← e1]
        exact h4.perm.map _
      refine q p ys G1 _ (s1.trans (Step.own s1.i hp)) (s1.pre hp) (Step.back s1.i hp) upd_same (RpA.of_pos hm fun x hx => e2 x (h4.perm.mem_iff.mp hx))
/-! ### new dicts -/
def EvFT (te : TE) (σ : L2.St) (G : Hp) (kvs : List (List Key × V)) : Prop := ∀ H, Ex G H → ∀ Q : VK, (∀ p G' H', Step G H G' H' → H p = none → G' p = none → H' p = some (.dT kvs) → Q (.ref p) H') → te σ H Q
theorem ft_dictC {kvs : List (List Key × V)} (ha : EvD K ta σ G (.tab kvs)) (hs : Small (kvs.map (·.1))) : EvFT (tCB rDictC (tCons ta tNil)) σ G kvs := fun H e Q q =>
  a_one ha H e _ fun vs G1 H1 s1 r => by
    obtain ⟨v, rfl, rr⟩ := r.one
    obtain ⟨a, rfl, h1⟩ := rr.tab_of
    exact ⟨a, kvs, rfl, s1.i _ _ h1, hs, fun p hp => q p G1 _ (s1.trans (Step.own s1.i hp)) (s1.pre hp) (Step.back s1.i hp) upd_same⟩
theorem ft_dictT {kvs : List (List Key × V)} (ha : EvD K ta σ G (.lst ds)) (hd : ds = kvs.map fun kv => D.tup [.tup (kv.1.map kD), vD kv.2]) (hs : ∀ kv ∈ kvs, scalV kv.2 = true) : EvFT (tCB (rDictT K) (tCons ta tNil)) σ G (mergeT [] kvs) := fun H e Q q =>
  a_one ha H e _ fun vs G1 H1 s1 r => by
    subst hd
    obtain ⟨v, rfl, rr⟩ := r.one
    obtain ⟨a, xs, rfl, h1, h2⟩ := rr.lst_of
    obtain ⟨ps, ts, rfl, e3, pr⟩ := (h2.ex s1.i).pairs hs
    refine ⟨a, ps, ts, rfl, s1.i _ _ h1, pr, fun p hp => ?_⟩
    rw [e3]
    exact q p G1 _ (s1.trans (Step.own s1.i hp)) (s1.pre hp) (Step.back s1.i hp) upd_same
theorem q_asgFT {i : Nat} {kvs : List (List Key × V)} (e : Ex G H) (h : EvFT te σ G kvs) (k : ∀ p G1 H1, Step G H G1 H1 → H p = none → G1 p = none → H1 p = some (.dT kvs) → tz Dn (σ.set i (some (.ref p))) H1) : tSeq (tAsg te (gName i)) tz Dn σ H := h H e _ fun p G1 H1 s h1 h2 h3 => k p G1 H1 s h1 h2 h3
def setK (kvs : List (List Key × V)) (k : List Key) (v : V) : List (List Key × V) := if (valV kvs k).isSome = true then kvs else putK kvs k v
/-- p.setdefault(key, v), p an own dict in slot i -/
theorem s_dsetd {i : Nat} {p : Addr} {kvs : List (List Key × V)} {ks : List Key} (S : Step G0 H0 G H) (h0 : H0 p = none) (hp : G p = none) (hx : H p = some (.dT kvs)) (hi : σ[i]? = some (some (.ref p))) (hk : EvD K tb σ G d2) (hkd : d2 = .tup (ks.map kD)) (hv : EvD K te σ G d) (hf : d.flat = true) (hz : kvs.length < 1000000)
    (k : ∀ G1 H1, Step G0 H0 G1 H1 → Ex G G1 → G1 p = none → H1 p = some (.dT (setK kvs ks d.toV)) → Dn.nx σ H1) : tDrop (tDSetdT (tVar i) tb te) Dn σ H :=
  ⟨_, hi, p, rfl, .inr ⟨kvs, .inl hx⟩, hk H S.i _ fun y G1 H1 s1 r1 => (hv.mono s1.g) H1 s1.i _ fun z G2 H2 s2 r2 => by
    subst hkd
    obtain ⟨b, xs, rfl, hb, hxs⟩ := (r1.ex s2.g).tup_of
    have z := hxs.keys
    subst z
    have s := s1.trans s2
    obtain ⟨g2, x2⟩ := s.keep hp hx
    rw [(r2.flat hf).1]
    refine ⟨kvs, ks, b, x2, rfl, s2.i _ _ hb, by rw [sizeLine_eq]; omega, fun v hv => ?_, fun hn => ?_⟩
    · refine k G2 H2 (S.trans s) s.g g2 ?_
      unfold setK
      rw [hv]
      exact x2
    · refine k G2 _ ((S.trans s).mut h0 g2) s.g g2 ?_
      unfold setK
      rw [hn]
      exact upd_same⟩
end
/-- list(range(n)) -/
theorem f_listRg [Tbs] {K : PySem.W.Frag} {σ : L2.St} {G : Hp} {te : TE} {n : Nat} (h : EvD K te σ G (.int n)) (hn : n ≤ 1000000) : EvF K (tLstRg (tRg1 te)) σ G ((List.range n).map fun k : Nat => D.int k) := fun H e Q q =>
  h H e _ fun v G1 H1 s r => ⟨(n : Int), r.int_of, RgOk.of_le (by omega) (by omega) (by omega) (by omega), fun p hp => q p _ G1 _ (s.trans (Step.own s.i hp)) (s.pre hp) (Step.back s.i hp) upd_same (by
    have e1 : rgV 0 (n : Int) = (List.range n).map fun k : Nat => V.int k := by
      unfold rgV
      have : ((n : Int) - 0).toNat = n := by omega
      rw [this]
      refine List.map_congr_left fun k _ => ?_
      rw [Int.zero_add]
    rw [e1]
    generalize List.range n = l
    induction l with
    | nil => exact .nil
    | cons a l ih => exact .cons (.int _) ih)⟩
theorem cr_sortedPOK {X : Cx} (K : PySem.W.Frag) (h : X.K = K) : CallR X (.builtin "sorted") (rSortedPO K) := h ▸ cr_sortedPO
end J

/-! Chains of three comparisons. -/
namespace J
open PySem PySem.Spec PyProof.Rows L2 Evl
def tChain3 (r r' r'' : R2) (ta tb tc td : TE) : TE := fun σ H Q => ta σ H fun x H1 => tb σ H1 fun y H2 => r x y H2 fun z H3 => ∃ k, z = .bl k ∧
  (if k = true then tc σ H3 fun w H4 => r' y w H4 fun z2 H5 => ∃ k2, z2 = .bl k2 ∧ (if k2 = true then td σ H5 fun u H6 => r'' w u H6 Q else Q (.bl false) H5) else Q (.bl false) H3)
theorem pt_chain3 {X : Cx} {op op' op'' : CmpOp} {r r' r'' : R2} {a b c d : Expr} {ta tb tc td : TE} {pos : Pos} (ho : OpR X (compareOp op) r) (ho' : OpR X (compareOp op') r') (ho'' : OpR X (compareOp op'') r'') (ha : PE X a ta) (hb : PE X b tb) (hc : PE X c tc) (hd : PE X d td)
    (hm : lastMarks [op, op', op''] [b, c, d] = false := by with_unfolding_all rfl) : PT X (.Compare a [op, op', op''] [b, c, d] pos) (tTest (tChain3 r r' r'' ta tb tc td)) := by
  refine ⟨fun pins s σ H Q I h => ?_⟩
  refine isTrue_chain (thn (ha.run pins s σ H _ I h) fun v s1 ⟨x, H1, I1, r1, q1⟩ => test_link (thn (hb.run pins s1 σ H1 _ I1 q1) fun u s2 ⟨y, H2, I2, r2, q2⟩ =>
    thn (ho pins s2 σ H2 x y v u _ I2 r1 r2 q2) fun e s3 ⟨z, H3, I3, r3, k, ez, q3⟩ => ?_)) hm
  subst ez
  cases r3
  refine wpAny_truthy_bool ?_
  cases k with
  | false =>
    obtain ⟨k', e', q'⟩ := q3
    cases e'
    exact ite_ff ⟨H3, I3, q'⟩
  | true =>
    refine ite_tt (test_link (thn (hc.run pins s3 σ H3 _ I3 q3) fun w' s4 ⟨z', H4, I4, r4, q4⟩ => thn (ho' pins s4 σ H4 y z' u w' _ I4 r2 r4 q4) fun d' s5 ⟨z2, H5, I5, r5, k2, e2, q5⟩ => ?_))
    subst e2
    cases r5
    refine wpAny_truthy_bool ?_
    cases k2 with
    | false =>
      obtain ⟨k', e', q'⟩ := q5
      cases e'
      exact ite_ff ⟨H5, I5, q'⟩
    | true =>
      refine ite_tt (test_last (thn (hd.run pins s5 σ H5 _ I5 q5) fun w2 s6 ⟨z3, H6, I6, r6, q6⟩ => thn (ho'' pins s6 σ H6 z' z3 w' w2 _ I6 r4 r6 q6) fun d2 s7 ⟨z4, H7, I7, r7, k3, e3, q7⟩ => ?_))
      subst e3
      cases r7
      exact wpAny_truthy_bool ⟨H7, I7, q7⟩
theorem cr_minK {X : Cx} (K : PySem.W.Frag) (h : X.K = K) (hc : X.calm = true) : CallR X (.builtin "min") (rMin K) := h ▸ cr_min hc
section
variable [Tbs] {K : PySem.W.Frag} {σ : L2.St} {p : Addr} {G H : Hp} {ta tb tc td te : TE}
theorem b_chain3 {i j k l : Int} (ha : EvD K ta σ G (.int i)) (hb : EvD K tb σ G (.int j)) (hc : EvD K tc σ G (.int k)) (hd : EvD K td σ G (.int l)) (h1 : i ≤ j) (h2 : j ≤ k) (h3 : k ≤ l) :
    EvB (tTest (tChain3 (rI0 fun i j => .bl (decide (i ≤ j))) (rI0 fun i j => .bl (decide (i ≤ j))) (rI0 fun i j => .bl (decide (i ≤ j))) ta tb tc td)) σ G true := fun H e Q q =>
  ha H e _ fun x G1 H1 s1 r1 => (hb.mono s1.g) H1 s1.i _ fun y G2 H2 s2 r2 => ⟨i, j, r1.int_of, r2.int_of, true, congrArg V.bl (decide_eq_true h1), by
    rw [if_pos rfl]
    exact (hc.mono (s1.g.trans s2.g)) H2 s2.i _ fun z G3 H3 s3 r3 => ⟨j, k, r2.int_of, r3.int_of, true, congrArg V.bl (decide_eq_true h2), by
      rw [if_pos rfl]
      exact (hd.mono ((s1.g.trans s2.g).trans s3.g)) H3 s3.i _ fun w G4 H4 s4 r4 => ⟨k, l, r3.int_of, r4.int_of, true, congrArg V.bl (decide_eq_true h3), q G4 H4 (((s1.trans s2).trans s3).trans s4)⟩⟩⟩
theorem r_fdivK {n lo hi : Nat} (ha : EvD K ta σ G (.int n)) (hb : EvR K p tb σ G (Btw lo hi)) (h0 : 0 < lo) (h1 : hi ≤ 1000000) : EvR K p (tOp (rI CDiv fun i j => .int (i / j)) ta tb) σ G (Btw 0 n) :=
  r_op (r_n ha) hb fun x y d1 d2 G1 H1 Q e1 e2 r1 r2 rp1 rp2 q => by
    obtain ⟨i, rfl, h2, h3⟩ := r1
    obtain ⟨j, rfl, h4, h5⟩ := r2
    refine ⟨i, j, rp1.int_of, rp2.int_of, ⟨by omega, by omega⟩, ?_⟩
    have e : ((i : Int) / (j : Int)) = ((i / j : Nat) : Int) := (Int.natCast_ediv _ _).symm
    show Q (.int ((i : Int) / (j : Int))) H1
    rw [e]
    exact q _ (.int ((i / j : Nat) : Int)) ⟨i / j, rfl, Nat.zero_le _, by have := Nat.div_le_self i j; omega⟩ (.int _)
/-- min(xs) -/
theorem e_minL {ns : List Int} {m : Int} {ds : List D} (ha : EvD K ta σ G (.lst ds)) (h : ds = ns.map D.int) (hm : m ∈ ns) (hl : ∀ x ∈ ns, m ≤ x) : EvD K (tCB (rMin K) (tCons ta tNil)) σ G (.int m) :=
  e_cb (a_one ha) fun vs G1 H1 Q e1 e2 r k => by
    obtain ⟨v, rfl, rr⟩ := r.one
    obtain ⟨a, xs, rfl, hs, ha⟩ := rr.lst_of
    subst h
    have := ha.ints
    subst this
    refine ⟨a, ns, rfl, .of (e2 _ _ hs), List.length_pos_of_mem hm, fun m' h1 h2 => ?_⟩
    have e : m' = m := Int.le_antisymm (h2 m hm) (hl m' h1)
    subst e
    exact k _ G1 H1 (Step.refl e2) (.int _)
end
end J

/-! Own objects, several at once. -/
namespace J
open PySem PySem.Spec PyProof.Rows L2 Evl
def over (G M : Hp) : Hp := fun b => match M b with
  | some o => some o
  | none => G b
def hideM (M H : Hp) : Hp := fun b => match M b with
  | some _ => none
  | none => H b
theorem over_some {G M : Hp} {b : Addr} {o : HO} (h : M b = some o) : over G M b = some o := by unfold over; rw [h]
theorem over_none {G M : Hp} {b : Addr} (h : M b = none) : over G M b = G b := by unfold over; rw [h]
theorem hideM_some {H M : Hp} {b : Addr} {o : HO} (h : M b = some o) : hideM M H b = none := by unfold hideM; rw [h]
theorem hideM_none {H M : Hp} {b : Addr} (h : M b = none) : hideM M H b = H b := by unfold hideM; rw [h]
theorem hideM_of {H M : Hp} {b : Addr} {o : HO} (h : hideM M H b = some o) : M b = none ∧ H b = some o := by
  cases q : M b with
  | some u => rw [hideM_some q] at h; cases h
  | none => rw [hideM_none q] at h; exact ⟨rfl, h⟩
/-- own objects: they stand, they may change yet -/
structure Owns (M G H : Hp) : Prop where
  g : ∀ b o, M b = some o → G b = none
  h : ∀ b o, M b = some o → H b = some o
  t : ∀ b o, M b = some o → isTup o = false ∧ isCode o = false
section
variable [Tbs] {K : PySem.W.Frag} {M M1 G G0 H0 G1 H H1 G' H' : Hp} {v : V} {d : D}
theorem Owns.nil : Owns (fun _ => none) G H := ⟨(fun _ _ h => nomatch h), (fun _ _ h => nomatch h), (fun _ _ h => nomatch h)⟩
theorem Owns.step (o : Owns M G H) (s : Step G H G1 H1) : Owns M G1 H1 := ⟨fun b u hb => s.n b u (o.g b u hb) (o.h b u hb) (o.t b u hb).1, fun b u hb => s.h.k b u (o.h b u hb) (isTbl_code (o.t b u hb).2), o.t⟩
theorem Owns.ex (o : Owns M G H) (e : Ex G H) : Ex (over G M) H := by
  refine ⟨fun b u hb t => ?_, fun b ps hb => ?_⟩
  · cases q : M b with
    | some w =>
      rw [over_some q] at hb
      cases hb
      exact o.h b _ q
    | none => rw [over_none q] at hb; exact e.k b u hb t
  · cases q : M b with
    | some w =>
      rw [over_some q] at hb
      cases hb
      have := (o.t b _ q).2
      cases this
    | none => rw [over_none q] at hb; exact e.t b ps hb
theorem Owns.gg (o : Owns M G H) : Ex G (over G M) := .of fun b u hb => by
  cases q : M b with
  | some w => rw [o.g b w q] at hb; cases hb
  | none => rw [over_none q]; exact hb
/-- behind a step that took own objects as standing, they are one's own again -/
theorem Step.thawM (o : Owns M G H) (s : Step (over G M) H G' H') : ∃ G2, Step G H G2 H' ∧ Owns M G2 H' ∧ (∀ b u, M b = none → G' b = some u → G2 b = some u) ∧ (∀ b, G' b = none → G2 b = none) ∧ ∀ b u, M b = some u → G' b = some u := by
  have gM : ∀ b u, M b = some u → G' b = some u := fun b u hb => s.g.k b u (over_some hb) (isTbl_code (o.t b u hb).2)
  have k1 : ∀ b, M b = none → hideM M G' b = G' b := fun b hb => hideM_none hb
  have k2 : ∀ b u, M b = some u → hideM M G' b = none := fun b u hb => hideM_some hb
  generalize hideM M G' = G2 at k1 k2
  have np : ∀ b u, G b = some u → M b = none := fun b u hb => by
    cases q : M b with
    | none => rfl
    | some w => rw [o.g b w q] at hb; cases hb
  have n2 : ∀ b u, G2 b = some u → M b = none := fun b u hb => by
    cases q : M b with
    | none => rfl
    | some w => rw [k2 b w q] at hb; cases hb
  have hM : ∀ b u, M b = some u → H' b = some u := fun b u hb => s.h.k b u (o.h b u hb) (isTbl_code (o.t b u hb).2)
  refine ⟨G2, ⟨⟨fun b u hb t => ?_, fun b ps hb => ?_⟩, ⟨fun b u hb t => ?_, fun b ps hb => ?_⟩, s.h, fun b u h1 h2 h3 => ?_, fun b u h1 h2 h3 => ?_⟩, ⟨fun b u hb => k2 b u hb, hM, o.t⟩, fun b u z h => (by rw [k1 b z]; exact h), fun b h => ?_, gM⟩
  · have z := np b u hb
    rw [k1 b z]
    exact s.g.k b u (by rw [over_none z]; exact hb) t
  · have z := np b _ hb
    obtain ⟨ps', h1, g⟩ := s.g.t b ps (by rw [over_none z]; exact hb)
    refine ⟨ps', by rw [k1 b z]; exact h1, fun ht => ?_⟩
    obtain ⟨h2, h3⟩ := g ht
    refine ⟨h2, fun pos cv hc => (h3 pos cv hc).elim .inl fun ⟨c, e1, e2⟩ => .inr ⟨c, e1, ?_⟩⟩
    have zc : M c = none := by
      cases q : M c with
      | none => rfl
      | some w =>
        rw [gM c w q] at e2
        cases e2
        have := (o.t c _ q).2
        cases this
    rw [k1 c zc]
    exact e2
  · have z := n2 b u hb
    rw [k1 b z] at hb
    exact s.i.k b u hb t
  · have z := n2 b _ hb
    rw [k1 b z] at hb
    exact s.i.t b ps hb
  · cases z : M b with
    | some w => exact k2 b w z
    | none => rw [k1 b z]; exact s.n b u (by rw [over_none z]; exact h1) h2 h3
  · have z : M b = none := by
      cases z : M b with
      | none => rfl
      | some w => rw [o.h b w z] at h1; cases h1
    rw [k1 b z]
    exact s.c b u h1 h2 h3
  · cases z : M b with
    | some w => exact k2 b w z
    | none => rw [k1 b z]; exact h
/-! ### steps beside own objects that may change -/
theorem Owns.hide_ex (o : Owns M G H) (e : Ex G H) : Ex G (hideM M H) := by
  have np : ∀ b u, G b = some u → M b = none := fun b u hb => by
    cases q : M b with
    | none => rfl
    | some w => rw [o.g b w q] at hb; cases hb
  refine ⟨fun b u hb t => by rw [hideM_none (np b u hb)]; exact e.k b u hb t, fun b ps hb => ?_⟩
  obtain ⟨ps', h1, gr⟩ := e.t b ps hb
  refine ⟨ps', by rw [hideM_none (np b _ hb)]; exact h1, fun ht => ?_⟩
  obtain ⟨h2, h3⟩ := gr ht
  refine ⟨h2, fun pos cv hc => (h3 pos cv hc).elim .inl fun ⟨c, e1, e2⟩ => .inr ⟨c, e1, ?_⟩⟩
  rw [hideM_none]
  · exact e2
  · cases q : M c with
    | none => rfl
    | some w =>
      rw [o.h c w q] at e2
      cases e2
      have := (o.t c _ q).2
      cases this
theorem hideM_ex : Ex (hideM M H) H := .of fun b o hb => (hideM_of hb).2
theorem Step.startM (e : Ex G H) (o : Owns M G H) : Step G (hideM M H) G H := ⟨Ex.refl _, e, hideM_ex, fun _ _ h _ _ => h, fun b u h1 h2 h3 => by
  cases q : M b with
  | some w =>
    rw [o.h b w q] at h2
    cases h2
    rw [(o.t b _ q).2] at h3
    cases h3
  | none => rw [hideM_none q, h2] at h1; cases h1⟩
/-- what stood ahead where the own objects are new, through a step that changes them -/
theorem Step.transM (a : Step G0 H0 G H) (o : Owns M G H) (hf : ∀ b u, M b = some u → H0 b = none) (s : Step G (hideM M H) G1 H1) : Step G0 H0 G1 H1 := by
  have ne : ∀ b u, H0 b = some u → M b = none := fun b u hb => by
    cases q : M b with
    | none => rfl
    | some w => rw [hf b w q] at hb; cases hb
  have eh : Ex H0 (hideM M H) := by
    refine ⟨fun b u hb t => by rw [hideM_none (ne b u hb)]; exact a.h.k b u hb t, fun b ps hb => ?_⟩
    obtain ⟨ps', h1, gr⟩ := a.h.t b ps hb
    refine ⟨ps', by rw [hideM_none (ne b _ hb)]; exact h1, fun ht => ?_⟩
    obtain ⟨h2, h3⟩ := gr ht
    refine ⟨h2, fun pos cv hc => (h3 pos cv hc).elim .inl fun ⟨c, e1, e2⟩ => .inr ⟨c, e1, ?_⟩⟩
    rw [hideM_none]
    · exact e2
    · cases q : M c with
      | none => rfl
      | some w =>
        rw [o.h c w q] at e2
        cases e2
        have := (o.t c _ q).2
        cases this
  refine ⟨a.g.trans s.g, s.i, eh.trans s.h, fun x u h1 h2 h3 => ?_, fun x u h1 h2 h3 => ?_⟩
  · have z := ne x u h2
    cases u with
    | tbl ps =>
      obtain ⟨ps', h', _⟩ := a.h.t x ps h2
      exact s.n x _ (a.n x _ h1 h2 h3) (by rw [hideM_none z]; exact h') rfl
    | _ => exact s.n x _ (a.n x _ h1 h2 h3) (by rw [hideM_none z]; exact a.h.k x _ h2 rfl) h3
  · cases z : hideM M H x with
    | none => exact s.c x u z h2 h3
    | some w =>
      obtain ⟨n, z⟩ := hideM_of z
      have hu : isCode w = true := by
        cases w with
        | tbl _ => rfl
        | ext _ => rfl
        | _ =>
          have h' := s.h.k x _ (by rw [hideM_none n]; exact z) rfl
          rw [h2] at h'
          cases h'
          exact h3
      have h' := a.c x w h1 z hu
      intro z2
      exact h' (fresh_back s.g z2)
theorem hide_hideM {p : Addr} : hideM M (hide p H) = hide p (hideM M H) := by
  funext b
  by_cases z : b = p
  · subst z
    rw [hide_p]
    cases q : M b with
    | some w => exact hideM_some q
    | none => rw [hideM_none q, hide_p]
  · rw [hide_ne z]
    cases q : M b with
    | some w => rw [hideM_some q, hideM_some q]
    | none => rw [hideM_none q, hideM_none q, hide_ne z]
theorem Sd.transM {p : Addr} (a : Sd p G0 H0 G H) (o : Owns M G H) (hf : ∀ b u, M b = some u → H0 b = none) (hp : M p = none) (s : Step G (hideM M H) G1 H1) : Sd p G0 H0 G1 H1 := by
  have hd := a.d
  obtain ⟨ms, hm, ok⟩ := hd
  have k := s.keep (p := p) a.g (by rw [hideM_none hp]; exact hm)
  refine ⟨a.s.transM o (fun b u hb => ?_) s, k.1, ⟨ms, k.2, ok⟩⟩
  have n : b ≠ p := fun z => by rw [z, hp] at hb; cases hb
  rw [hide_ne n]
  exact hf b u hb
/-! ### data without lists -/
mutual
def D.tupO : D → Bool
  | .tup ds => D.tupOA ds
  | .lst _ => false
  | .tab _ => false
  | .dic _ => false
  | _ => true
def D.tupOA : List D → Bool
  | [] => true
  | d :: ds => d.tupO && D.tupOA ds
end
mutual
theorem Rp.off (tr : ∀ b xs, G' b = some (.tup xs) → G1 b = some (.tup xs)) : ∀ {d : D} {v : V}, Rp K G' v d → d.tupO = true → Rp K G1 v d
  | .non, _, h, _ => by cases h; exact .non
  | .bl _, _, h, _ => by cases h; exact .bl _
  | .int _, _, h, _ => by cases h; exact .int _
  | .str _, _, h, _ => by cases h; exact .str _
  | .tup _, _, h, p => by
    cases h with
    | tup hs ha => exact .tup (tr _ _ hs) (RpA.off tr ha p)
  | .lst _, _, h, p => by cases p
  | .tab _, _, h, p => by cases p
  | .dic _, _, h, p => by cases p
theorem RpA.off (tr : ∀ b xs, G' b = some (.tup xs) → G1 b = some (.tup xs)) : ∀ {ds : List D} {vs : List V}, RpA K G' vs ds → D.tupOA ds = true → RpA K G1 vs ds
  | [], _, h, _ => by cases h; exact .nil
  | d :: ds, _, h, p => by
    cases h with
    | cons h1 h2 =>
      have q : (d.tupO && D.tupOA ds) = true := p
      rw [Bool.and_eq_true] at q
      exact .cons (Rp.off tr h1 q.1) (RpA.off tr h2 q.2)
end
theorem tupOA_map {α : Type} {f : α → D} (h : ∀ x, (f x).tupO = true) : ∀ l : List α, D.tupOA (l.map f) = true
  | [] => rfl
  | x :: l => by
    show ((f x).tupO && D.tupOA (l.map f)) = true
    rw [h x, tupOA_map h l]; rfl
/-- a tuple stands where no own object does -/
theorem off_tr (o : Owns M G H) (tr : ∀ b u, M b = none → G' b = some u → G1 b = some u) (gM : ∀ b u, M b = some u → G' b = some u) : ∀ b xs, G' b = some (.tup xs) → G1 b = some (.tup xs) := fun b xs hb => by
  cases q : M b with
  | none => exact tr b _ q hb
  | some w =>
    rw [gM b w q] at hb
    cases hb
    have := (o.t b _ q).1
    cases this
variable {σ : L2.St} {te : TE} {t : TT} {b : Bool} {ds : List D} {Dn : Ends} {tu tw tz : TS} {i : Nat}
/-- a value that reads own objects, of tuples and flat things alone -/
theorem EvD.own (h : EvD K te σ (over G M) d) (hd : d.tupO = true) (e : Ex G H) (o : Owns M G H) (Q : VK) (k : ∀ v G1 H1, Step G H G1 H1 → Owns M G1 H1 → Rp K G1 v d → Q v H1) : te σ H Q :=
  h H (o.ex e) _ fun v G1 H1 s r => by
    obtain ⟨G2, s2, o2, tr, _, gM⟩ := s.thawM o
    exact k v G2 H1 s2 o2 (r.off (off_tr o tr gM) hd)
theorem EvF.own (h : EvF K te σ (over G M) ds) (hd : D.tupOA ds = true) (e : Ex G H) (o : Owns M G H) (Q : VK) (k : ∀ p xs G1 H1, Step G H G1 H1 → Owns M G1 H1 → H p = none → G1 p = none → H1 p = some (.lst xs) → RpA K G1 xs ds → Q (.ref p) H1) : te σ H Q :=
  h H (o.ex e) _ fun p xs G1 H1 s h1 h2 h3 r => by
    obtain ⟨G2, s2, o2, tr, fr, gM⟩ := s.thawM o
    exact k p xs G2 H1 s2 o2 h1 (fr p h2) h3 (r.off (off_tr o tr gM) hd)
theorem EvB.own (h : EvB t σ (over G M) b) (e : Ex G H) (o : Owns M G H) (Q : Bool → Hp → Prop) (k : ∀ G1 H1, Step G H G1 H1 → Owns M G1 H1 → Q b H1) : t σ H Q :=
  h H (o.ex e) _ fun G1 H1 s => by
    obtain ⟨G2, s2, o2, _⟩ := s.thawM o
    exact k G2 H1 s2 o2
theorem q_asgM (e : Ex G H) (o : Owns M G H) (h : EvD K te σ (over G M) d) (hd : d.tupO = true) (k : ∀ v G1 H1, Step G H G1 H1 → Owns M G1 H1 → Rp K G1 v d → tz Dn (σ.set i (some v)) H1) : tSeq (tAsg te (gName i)) tz Dn σ H := h.own hd e o _ k
theorem q_asgFM (e : Ex G H) (o : Owns M G H) (h : EvF K te σ (over G M) ds) (hd : D.tupOA ds = true) (k : ∀ p xs G1 H1, Step G H G1 H1 → Owns M G1 H1 → H p = none → G1 p = none → H1 p = some (.lst xs) → RpA K G1 xs ds → tz Dn (σ.set i (some (.ref p))) H1) : tSeq (tAsg te (gName i)) tz Dn σ H := h.own hd e o _ k
theorem s_ifM (e : Ex G H) (o : Owns M G H) (h : EvB t σ (over G M) b) (h1 : b = true → ∀ G1 H1, Step G H G1 H1 → Owns M G1 H1 → tu Dn σ H1) (h2 : b = false → ∀ G1 H1, Step G H G1 H1 → Owns M G1 H1 → tw Dn σ H1) : tIfS t tu tw Dn σ H :=
  h.own e o _ fun G1 H1 s o1 => by
    cases b with
    | true => exact h1 rfl G1 H1 s o1
    | false => exact h2 rfl G1 H1 s o1
theorem q_whenM (e : Ex G H) (o : Owns M G H) (h : EvB t σ (over G M) b) (h1 : b = true → ∀ G1 H1, Step G H G1 H1 → Owns M G1 H1 → tu { Dn with nx := tz Dn } σ H1) (h2 : b = false → ∀ G1 H1, Step G H G1 H1 → Owns M G1 H1 → tz Dn σ H1) : tSeq (tIfS t tu tNext) tz Dn σ H := s_ifM (Dn := { Dn with nx := tz Dn }) e o h h1 h2
theorem s_retM (e : Ex G H) (o : Owns M G H) (h : EvD K te σ (over G M) d) (hd : d.tupO = true) (k : ∀ v G1 H1, Step G H G1 H1 → Owns M G1 H1 → Rp K G1 v d → Dn.rt v H1) : tRet te Dn σ H := h.own hd e o _ k
theorem s_retFM (e : Ex G H) (o : Owns M G H) (h : EvF K te σ (over G M) ds) (hd : D.tupOA ds = true) (k : ∀ p xs G1 H1, Step G H G1 H1 → Owns M G1 H1 → H p = none → G1 p = none → H1 p = some (.lst xs) → RpA K G1 xs ds → Dn.rt (.ref p) H1) : tRet te Dn σ H := h.own hd e o _ k
/-- one own object changes -/
theorem Owns.upd {l : Addr} {u w : HO} (o : Owns M G H) (hl : M l = some u) (hw : isTup w = false ∧ isCode w = false) : Owns (L2.upd M l w) G (L2.upd H l w) := by
  refine ⟨fun b x hb => ?_, fun b x hb => ?_, fun b x hb => ?_⟩
  · by_cases z : b = l
    · subst z; exact o.g b u hl
    · rw [upd_ne z] at hb; exact o.g b x hb
  · by_cases z : b = l
    · subst z; rw [upd_same] at hb ⊢; exact hb
    · rw [upd_ne z] at hb ⊢; exact o.h b x hb
  · by_cases z : b = l
    · subst z; rw [upd_same] at hb; cases hb; exact hw
    · rw [upd_ne z] at hb; exact o.t b x hb
/-! ### fields -/
/-- o.f, o an instance whose field f stands -/
theorem e_fld {C dx o : Addr} {fs : List (Str × V)} {f : Str} {w : V} (h : ∀ H, Ex G H → ∀ Q : VK, (∀ G' H', Step G H G' H' → Q (.ref o) H') → te σ H Q) (hi : G o = some (.ins C dx fs)) (c : Cls K C) (n : NoAttr K C f) (hl : fs.lookup f = some w) (r : Rp K G w d) : EvD K (tFld K te f) σ G d := fun H e Q q =>
  h H e _ fun G1 H1 s => ⟨o, C, dx, fs, w, rfl, s.i.k _ _ (s.g.k _ _ hi rfl) rfl, c, n, hl, q w G1 H1 s (r.ex s.g)⟩
theorem o_var {j : Nat} {o : Addr} (h : σ[j]? = some (some (.ref o))) : ∀ H, Ex G H → ∀ Q : VK, (∀ G' H', Step G H G' H' → Q (.ref o) H') → tVar j σ H Q := fun H e Q q => ⟨_, h, q G H (Step.refl e)⟩
end
end J

/-! Own classes: makers, methods, fields. -/
namespace J
open PySem PySem.Spec PyProof.Rows L2 Evl
/-- the class of a name -/
abbrev cA (K : PySem.W.Frag) (x : Str) : Addr := He.ga K x
/-- a method that stands in a class, with its promise -/
structure Dm (P : Program) (w : World) (K : PySem.W.Frag) (mg : Str → Option Value) (base : Heap) (k : Nat) (x m : Str) (ps : List Str) (sp : Sp) : Prop where
  ex : ∃ f fd, FnOk P w K mg base CX0 k f fd ps sp ∧ Binds K fd ps [] ∧ Cls K (cA K x) ∧ Meth K (cA K x) m f
/-- a class that makes instances by an __init__ with its promise -/
structure Dc (P : Program) (w : World) (K : PySem.W.Frag) (mg : Str → Option Value) (base : Heap) (k : Nat) (x : Str) (ps : List Str) (sp : Sp) : Prop where
  ex : ∃ f fd, FnOk P w K mg base CX0 k f fd ps sp ∧ Binds K fd ps [] ∧ L2.Mk K (cA K x) f ∧ mg x = some (.ref (cA K x))
theorem pe_me {X : Cx} {k : Nat} {x m : Str} {ps : List Str} {sp : Sp} {o e : Expr} {es : List Expr} {ta : TE} {t : TA} {pos apos : Pos} {pl : Sem Bool} (D : Dm X.prog X.w X.K X.mg X.base k x m ps sp) (hr : Room k X.A) (he : PE X o ta) (ha : PA X (e :: es) t)
    (hst : starEach (e :: es) X.env = (false, eval e X.env) :: starEach es X.env := by rfl) (hpl : (backTo pos (starEach es X.env)).any (·.1) = false := by rfl)
    (ht : eval (.Call (.Attribute o m apos) (e :: es) [] pos) X.env = (do
      let ov ← eval o X.env
      standAt apos.atName
      let (f, first) ← holding [ov] (getMethod ov m pl)
      callWith pos f first (backTo pos (starEach (e :: es) X.env)) (backToKw pos (keywordEach [] X.env))) := by rfl) :
    PE X (.Call (.Attribute o m apos) (e :: es) [] pos) (tMeth (cA X.K x) m sp [] E0 ta t) := let ⟨f, fd, F, b, c, M⟩ := D.ex; pe_meth he c M F hr b .nil pass0 ha hst hpl ht
theorem pe_me0 {X : Cx} {k : Nat} {x m : Str} {ps : List Str} {sp : Sp} {o : Expr} {ta : TE} {pos apos : Pos} {pl : Sem Bool} (D : Dm X.prog X.w X.K X.mg X.base k x m ps sp) (hr : Room k X.A) (he : PE X o ta)
    (ht : eval (.Call (.Attribute o m apos) [] [] pos) X.env = (do
      let ov ← eval o X.env
      standAt apos.atName
      let (f, first) ← holding [ov] (getMethod ov m pl)
      callWith pos f first (backTo pos (starEach [] X.env)) (backToKw pos (keywordEach [] X.env))) := by rfl) :
    PE X (.Call (.Attribute o m apos) [] [] pos) (tMeth (cA X.K x) m sp [] E0 ta tNil) := let ⟨f, fd, F, b, c, M⟩ := D.ex; pe_meth0 he c M F hr b .nil pass0 ht
theorem pe_mk {X : Cx} {k : Nat} {x : Str} {ps : List Str} {sp : Sp} {p pos : Pos} {e : Expr} {es : List Expr} {t : TA} (D : Dc X.prog X.w X.K X.mg X.base k x ps sp) (hr : Room (k + 1) X.A) (hg : Gl X x) (ha : PA X (e :: es) t)
    (hdb : (x == ("__debug__" : Str)) = false := by decide) (he : starEach (e :: es) X.env = (false, eval e X.env) :: starEach es X.env := by rfl) (hpl : (backTo pos (starEach es X.env)).any (·.1) = false := by rfl) :
    PE X (.Call (.Name x p) (e :: es) [] pos) (tMake (cA X.K x) sp [] E0 t) := let ⟨f, fd, F, b, M, m⟩ := D.ex; pe_make M F hr hg m b .nil pass0 ha hdb he hpl
theorem pe_mk0 {X : Cx} {k : Nat} {x : Str} {ps : List Str} {sp : Sp} {p pos : Pos} (D : Dc X.prog X.w X.K X.mg X.base k x ps sp) (hr : Room (k + 1) X.A) (hg : Gl X x) (hdb : (x == ("__debug__" : Str)) = false := by decide) :
    PE X (.Call (.Name x p) [] [] pos) (tMake (cA X.K x) sp [] E0 tNil) := let ⟨f, fd, F, b, M, m⟩ := D.ex; pe_make0 M F hr hg m b .nil pass0 hdb
theorem pe_fldK {X : Cx} (K : PySem.W.Frag) (h : X.K = K) {e : Expr} {f : Str} {ta : TE} {pos : Pos} (he : PE X e ta) (hb : attributeBase e f X.env (eval e X.env) = eval e X.env) : PE X (.Attribute e f pos) (tFld K ta f) := h ▸ pe_fld he hb
theorem ps_fldK {X : Cx} (K : PySem.W.Frag) (h : X.K = K) {o value : Expr} {f : Str} {ta tv : TE} {pos pos' : Pos} (ha : PE X o ta) (hv : PE X value tv) (hs : swapsWith value (some (.Attribute o f pos')) pos.line X.env = pure false) : PS X (.Assign [.Attribute o f pos'] value pos) (sFld K ta tv f) := h ▸ ps_fld ha hv hs
section
variable [Tbs] {K : PySem.W.Frag} {M M1 G G0 H0 G1 H H1 G' H' : Hp} {v : V} {d : D} {σ : L2.St} {te tb : TE} {ds : List D} {as : TA} {Dn : Ends} {tz : TS} {C dx o : Addr} {fs : List (Str × V)} {f : Str} {j : Nat}
/-- self.f = data, self an own instance in slot j -/
theorem q_fldD (e : Ex G H) (hg : G o = none) (ho : H o = some (.ins C dx fs)) (hj : σ[j]? = some (some (.ref o))) (h : EvD K te σ G d) (c : Cls K C) (n : NoAttr K C f) (hl : fs.length < 1000) (k : ∀ v G1 H1, Step G H G1 H1 → G1 o = none → Rp K G1 v d → tz Dn σ (upd H1 o (.ins C dx (putF f v fs)))) : tSeq (sFld K (tVar j) te f) tz Dn σ H :=
  h H e _ fun v G1 H1 s r => ⟨_, hj, o, C, dx, fs, rfl, s.h.k o _ ho rfl, c, n, hl, k v G1 H1 s (s.n o _ hg ho rfl) r⟩
/-! ### comprehensions whose items are new lists that may change yet -/
/-- own lists, new since H0, that hold these items -/
structure OwnLs (G H0 H : Hp) (ls : List Addr) (rows : List (List V)) : Prop where
  nd : ls.Nodup
  len : ls.length = rows.length
  at_ : ∀ (i : Nat) (l : Addr), ls[i]? = some l → H0 l = none ∧ G l = none ∧ ∃ row, rows[i]? = some row ∧ H l = some (.lst row)
theorem OwnLs.nil : OwnLs G H0 H [] [] := ⟨.nil, rfl, fun i l h => by simp at h⟩
theorem OwnLs.mem {ls : List Addr} {rows : List (List V)} (o : OwnLs G H0 H ls rows) {l : Addr} (h : l ∈ ls) : H0 l = none ∧ G l = none ∧ ∃ row, H l = some (.lst row) := by
  obtain ⟨i, hi⟩ := List.getElem?_of_mem h
  obtain ⟨h1, h2, row, _, h3⟩ := o.at_ i l hi
  exact ⟨h1, h2, row, h3⟩
theorem OwnLs.step {ls : List Addr} {rows : List (List V)} (o : OwnLs G H0 H ls rows) (s : Step G H G1 H1) : OwnLs G1 H0 H1 ls rows := ⟨o.nd, o.len, fun i l h => by
  obtain ⟨h1, h2, row, h3, h4⟩ := o.at_ i l h
  obtain ⟨k1, k2⟩ := s.keep h2 h4
  exact ⟨h1, k1, row, h3, k2⟩⟩
theorem OwnLs.pre {ls : List Addr} {rows : List (List V)} {H00 : Hp} (o : OwnLs G H0 H ls rows) (f : ∀ l, H0 l = none → H00 l = none) : OwnLs G H00 H ls rows := ⟨o.nd, o.len, fun i l h => by
  obtain ⟨h1, h2⟩ := o.at_ i l h
  exact ⟨f l h1, h2⟩⟩
/-- another object changes -/
theorem OwnLs.other {ls : List Addr} {rows : List (List V)} (o : OwnLs G H0 H ls rows) {p : Addr} {u : HO} (hp : p ∉ ls) : OwnLs G H0 (upd H p u) ls rows := ⟨o.nd, o.len, fun i l h => by
  obtain ⟨h1, h2, row, h3, h4⟩ := o.at_ i l h
  exact ⟨h1, h2, row, h3, by rw [upd_ne (fun z => hp (by rw [← z]; exact List.mem_of_getElem? h))]; exact h4⟩⟩
theorem OwnLs.snoc {ls : List Addr} {rows : List (List V)} {l : Addr} {row : List V} (o : OwnLs G H0 H ls rows) (hl : l ∉ ls) (h0 : H0 l = none) (h1 : G l = none) (h2 : H l = some (.lst row)) : OwnLs G H0 H (ls ++ [l]) (rows ++ [row]) := by
  refine ⟨List.nodup_append.mpr ⟨o.nd, List.nodup_cons.mpr ⟨List.not_mem_nil, .nil⟩, fun a ha b hb z => hl (by rw [List.mem_singleton.mp hb] at z; rw [← z]; exact ha)⟩, by rw [List.length_append, List.length_append, o.len]; rfl, fun i x h => ?_⟩
  by_cases hi : i < ls.length
  · rw [List.getElem?_append_left hi] at h
    obtain ⟨k1, k2, r, k3, k4⟩ := o.at_ i x h
    exact ⟨k1, k2, r, by rw [List.getElem?_append_left (by rw [← o.len]; exact hi)]; exact k3, k4⟩
  · rw [List.getElem?_append_right (by omega)] at h
    have hz : i - ls.length = 0 := by
      cases q : i - ls.length with
      | zero => rfl
      | succ j => rw [q] at h; simp at h
    rw [hz] at h
    have e : l = x := Option.some.inj h
    subst e
    refine ⟨h0, h1, row, ?_, h2⟩
    rw [List.getElem?_append_right (by rw [← o.len]; omega), ← o.len, hz]
    rfl
theorem RpA.of_flat : ∀ {ds : List D}, ds.all D.flat = true → RpA K G (ds.map D.toV) ds
  | [], _ => .nil
  | d :: ds, h => by
    rw [List.all_cons, Bool.and_eq_true] at h
    refine .cons ?_ (RpA.of_flat h.2)
    cases d <;> first | exact .non | exact .bl _ | exact .int _ | exact .str _ | cases h.1
/-- frozen: the lists become data -/
theorem OwnLs.freeze : ∀ {ls : List Addr} {rows : List (List V)} {rs : List (List D)} {G1 H1 : Hp}, Step G H G1 H1 → OwnLs G1 H H1 ls rows → rows = rs.map (·.map D.toV) → (∀ r ∈ rs, r.all D.flat = true) → ∃ G2, Step G H G2 H1 ∧ Ex G1 G2 ∧ (∀ b, b ∉ ls → G1 b = none → G2 b = none) ∧ RpA K G2 (ls.map V.ref) (rs.map D.lst)
  | [], rows, rs, G1, H1, s, o, e, hf => by
    have h := o.len
    rw [e] at h
    cases rs with
    | nil => exact ⟨G1, s, Ex.refl _, fun _ _ h => h, .nil⟩
    | cons _ _ => cases h
  | l :: ls, rows, rs, G1, H1, s, o, e, hf => by
    have h := o.len
    rw [e] at h
    cases rs with
    | nil => cases h
    | cons r rs =>
      obtain ⟨h0, h1, row, h2, h3⟩ := o.at_ 0 l rfl
      rw [e] at h2
      have h2 : r.map D.toV = row := Option.some.inj h2
      obtain ⟨n1, n2⟩ := List.nodup_cons.mp o.nd
      have s2 := s.freeze h0 h1 h3
      have o2 : OwnLs (upd G1 l (.lst row)) H H1 ls (rs.map (·.map D.toV)) := ⟨n2, by rw [List.length_map]; simpa using h, fun i x hx => by
        obtain ⟨k1, k2, r0, k3, k4⟩ := o.at_ (i + 1) x hx
        rw [e] at k3
        exact ⟨k1, by rw [upd_ne (fun z => n1 (by rw [← z]; exact List.mem_of_getElem? hx))]; exact k2, r0, k3, k4⟩⟩
      obtain ⟨G2, s3, e3, f3, r3⟩ := OwnLs.freeze s2 o2 rfl fun r hr => hf r (List.mem_cons_of_mem _ hr)
      refine ⟨G2, s3, (Ex.new h1).trans e3, fun b hb hn => ?_, .cons (.lst (e3 _ _ upd_same) ?_) r3⟩
      · refine f3 b (fun z => hb (List.mem_cons_of_mem _ z)) ?_
        rw [upd_ne (fun z => hb (by rw [z]; exact List.mem_cons_self))]
        exact hn
      · subst h2
        exact RpA.of_flat (hf r List.mem_cons_self)
variable {wi : TI} {g : TG} {n : Nat} {Y : Nat → D} {js : List Nat}
theorem f_lcN {vs : List Nat} (E : Nat → List D) (row : Nat → List D) (hi : EvI K wi σ G n Y) (hg : ∀ i, i < n → EvG K g (Y i) js (E i)) (hz : n ≤ 1000000)
    (hl : ∀ i, i < n → (E i).length = js.length) (hf : ∀ i, (row i).all D.flat = true)
    (hw : ∀ us : List V, us.length = js.length → wipe (setAll (wipe σ vs) js us) vs = wipe σ vs)
    (he : ∀ i, i < n → ∀ G1, Ex G G1 → ∀ us, RpA K G1 us (E i) → EvF K te (setAll (wipe σ vs) js us) G1 (row i)) (e : Ex G H) (Q : VK)
    (q : ∀ p ls G' H', Step G H G' H' → H p = none → G' p = none → H' p = some (.lst (ls.map V.ref)) → p ∉ ls → OwnLs G' H H' ls ((List.range n).map fun i => (row i).map D.toV) → Q (.ref p) H') : tLc wi g tYes te vs σ H Q :=
  hi H e _ fun J G1 H1 s1 wk Dl hD => by
    refine ⟨fun i m H' => m = n - i ∧ i ≤ n ∧ ∃ G' ls, Step G1 H1 G' H' ∧ G' Dl = none ∧ H' Dl = some (.lst (ls.map V.ref)) ∧ Dl ∉ ls ∧ OwnLs G' H1 H' ls ((List.range i).map fun i => (row i).map D.toV), ⟨n, by omega, Nat.zero_le _, G1, [], Step.own s1.i hD, Step.back s1.i hD, upd_same, List.not_mem_nil, OwnLs.nil⟩, ?_⟩
    rintro i m H' ⟨rfl, hi', G', ls, s2, hD1, hD2, hDl, o2⟩
    by_cases hlt : i < n
    · refine .inr ⟨wk.goes i H' hlt (s2.g.trans s2.i), fun H2 => i + 1 ≤ n ∧ ∃ G' ls, Step G1 H1 G' H2 ∧ G' Dl = none ∧ H2 Dl = some (.lst (ls.map V.ref)) ∧ Dl ∉ ls ∧ OwnLs G' H1 H2 ls ((List.range (i + 1)).map fun i => (row i).map D.toV), fun H2 p => ⟨n - (i + 1), by omega, rfl, p⟩, fun x H2 y => ?_⟩
      obtain ⟨G2, s3, r3⟩ := wk.yields i G' H' x H2 hlt s2.g s2.i y
      refine hg i hlt G2 H2 x _ _ s3.i r3 fun us ru => ⟨hw us (by rw [ru.len]; exact hl i hlt), ?_⟩
      obtain ⟨g3, k3⟩ := s3.keep hD1 hD2
      have s23 := s2.trans s3
      have o3 := o2.step s3
      show te (setAll (wipe σ vs) js us) H2 _
      refine (he i hlt G2 (s1.g.trans s23.g) us ru) H2 s3.i _ fun p xs G4 H4 s5 q1 q2 q3 r5 => ?_
      obtain ⟨g5, k5⟩ := s5.keep g3 k3
      have o5 := o3.step s5
      obtain ⟨hx, _⟩ := r5.flat (hf i)
      subst hx
      have npl : p ∉ ls := fun z => by
        obtain ⟨_, _, r, h⟩ := o3.mem z
        rw [q1] at h
        cases h
      have npD : p ≠ Dl := fun z => by rw [z, k3] at q1; cases q1
      refine ⟨ls.map V.ref, k5, ?_, hlt, G4, ls ++ [p], (s23.trans s5).mut hD g5, g5, ?_, ?_, ?_⟩
      · rw [List.length_map, o5.len, List.length_map, List.length_range, sizeLine_eq]
        omega
      · rw [upd_same, List.map_append]; rfl
      · intro z
        rcases List.mem_append.mp z with z | z
        · exact hDl z
        · exact npD (List.mem_singleton.mp z).symm
      · rw [List.range_succ, List.map_append]
        refine OwnLs.other (o5.snoc npl (s23.pre q1) q2 q3) fun z => ?_
        · rcases List.mem_append.mp z with z | z
          · exact hDl z
          · exact npD (List.mem_singleton.mp z).symm
    · have z : i = n := by omega
      subst z
      exact .inl ⟨wk.stops H' (s2.g.trans s2.i), q Dl ls G' H' (s1.trans s2) (s1.pre hD) hD1 hD2 hDl (o2.pre fun l h => s1.pre h)⟩
/-- a new list of new lists of flat things -/
def spFF (K : PySem.W.Frag) (R : List D → List (List D) → Prop) : Sp := fun vs H Q _ => ∃ G ds r, Ex G H ∧ RpA K G vs ds ∧ R ds r ∧ ∀ p ls G' H', Step G H G' H' → H p = none → G' p = none → H' p = some (.lst (ls.map V.ref)) → p ∉ ls → OwnLs G' H H' ls (r.map fun l => l.map D.toV) → Q (.ref p) H'
theorem f_callFF {R : List D → List (List D) → Prop} {E : XK} {r : List (List D)} (h : EvAs K as σ G ds) (hr : R ds r) (hf : ∀ x ∈ r, x.all D.flat = true) : EvF K (tCall (spFF K R) [] E as) σ G (r.map D.lst) := fun H e Q q =>
  h H e _ fun vs G1 H1 s1 r1 => ⟨G1, ds, r, s1.i, by rw [List.append_nil]; exact r1, hr, fun p ls G2 H2 s2 h1 h2 h3 hp o => by
    obtain ⟨G3, s3, e3, f3, r3⟩ := OwnLs.freeze s2 o rfl hf
    exact q p _ G3 H2 (s1.trans s3) (s1.pre h1) (f3 p hp h2) h3 r3⟩
end
end J

/-! sum of a tuple, unary minus, own lists that change, fields with lists. -/
namespace J
open PySem PySem.Spec PyProof.Rows L2 Evl
def rSumT (K : PySem.W.Frag) : List V → Hp → VK → Prop := fun vs H Q => ∃ (a : Addr) (ns : List Int), vs = [V.ref a] ∧ SqT K H a (ns.map V.int) ∧ Q (.int ns.sum) H
theorem cr_sumT {X : Cx} (hc : X.calm = true) : CallR X (.builtin "sum") (rSumT X.K) := by
  intro pins s σ H vs us Q I r h
  obtain ⟨a, ns, rfl, hs, q⟩ := h
  obtain ⟨its, rv, ht, _⟩ := I.tuple hs
  rw [Vals.ref1 r]
  have hi := rv.ints
  obtain ⟨xs, hx⟩ := hi.allInts.items
  have hn : numsOf its.toArray.toList = ns := by rw [show its.toArray.toList = its from rfl, hi.numsOf]
  rw [hx] at ht hn
  rw [nums_intItems] at hn
  refine PySem.W.ktm_sumG (I.ok.hd hc) ht fun h' tk t' hk => ?_
  have e : preSum (numAt xs) xs.size = ns.sum := by rw [preSum_eq, List.take_of_length_le (by simp), hn]
  rw [e]
  exact ⟨.int _, H, I.kept hk, ⟨_, rfl⟩, q⟩
def rSumA (K : PySem.W.Frag) : List V → Hp → VK → Prop := fun xs H Q => rSum K xs H Q ∨ rSumT K xs H Q
theorem cr_sumA {X : Cx} (K : PySem.W.Frag) (h : X.K = K) (hc : X.calm = true) : CallR X (.builtin "sum") (rSumA K) := h ▸ (cr_sum hc).or (cr_sumT hc)
section
variable [Tbs] {K : PySem.W.Frag} {M M1 G G0 H0 G1 H H1 G' H' : Hp} {v : V} {d : D} {σ : L2.St} {te ta tb : TE} {ds : List D} {as : TA} {Dn : Ends} {tz : TS} {C dx o : Addr} {fs : List (Str × V)} {f : Str} {j : Nat}
theorem e_sumT {ns : List Int} (ha : EvD K ta σ G (.tup ds)) (h : ds = ns.map D.int) : EvD K (tCB (rSumA K) (tCons ta tNil)) σ G (.int ns.sum) :=
  e_cb (a_one ha) fun vs G1 H1 Q e1 e2 r k => by
    obtain ⟨v, rfl, rr⟩ := r.one
    obtain ⟨a, xs, rfl, hs, ha⟩ := rr.tup_of
    subst h
    have := ha.ints
    subst this
    exact .inr ⟨a, ns, rfl, .of (e2 _ _ hs), k _ G1 H1 (Step.refl e2) (.int _)⟩
theorem e_neg {i : Int} (ha : EvD K ta σ G (.int i)) : EvD K (tUn (rU fun i => .int (-i)) ta) σ G (.int (-i)) := fun H e Q q =>
  ha H e _ fun v G1 H1 s r => ⟨i, r.int_of, q _ G1 H1 s (.int _)⟩
theorem atI_last {ds : List D} {d : D} (h : ds.getLast? = some d) : atI ds (-1) = some d := by
  have hn : ds ≠ [] := fun z => by rw [z] at h; cases h
  have hl : 0 < ds.length := List.length_pos_iff.mpr hn
  rw [List.getLast?_eq_getElem?] at h
  unfold atI ixN
  rw [if_neg (by omega), if_pos (by omega), show ((-1 : Int) + (ds.length : Int)).toNat = ds.length - 1 by omega]
  exact h
/-- an expression whose value is the object at a -/
def EvO (te : TE) (σ : L2.St) (G : Hp) (a : Addr) : Prop := ∀ H, Ex G H → ∀ Q : VK, (∀ G' H', Step G H G' H' → Q (.ref a) H') → te σ H Q
theorem o_name {j : Nat} {o : Addr} (h : σ[j]? = some (some (.ref o))) : EvO (tVar j) σ G o := o_var h
theorem o_fld {w : Addr} (h : EvO te σ G o) (hi : G o = some (.ins C dx fs)) (c : Cls K C) (n : NoAttr K C f) (hl : fs.lookup f = some (.ref w)) : EvO (tFld K te f) σ G w := fun H e Q q =>
  h H e _ fun G1 H1 s => ⟨o, C, dx, fs, _, rfl, s.i.k _ _ (s.g.k _ _ hi rfl) rfl, c, n, hl, q G1 H1 s⟩
theorem EvO.mono (e : Ex G G1) (h : EvO te σ G o) : EvO te σ G1 o := fun H a Q q => h H (e.trans a) Q fun G' H' s => by
  obtain ⟨G2, s2, e2, n2⟩ := s.widen e a
  exact q G2 H' s2
theorem o_ix {i : Nat} {xs : List V} {a l : Addr} (h : EvO ta σ G a) (hx : G a = some (.lst xs)) (hb : EvD K tb σ G (.int i)) (hl : xs[i]? = some (.ref l)) : EvO (tOp (rIx K) ta tb) σ G l := fun H e Q q =>
  h H e _ fun G1 H1 s1 => (hb.mono s1.g) H1 s1.i _ fun v G2 H2 s2 r2 =>
    .inl ⟨a, xs, (i : Int), _, rfl, r2.int_of, .of (s2.i _ _ ((s1.g.trans s2.g) _ _ hx)), atI_nat hl, q G2 H2 (s1.trans s2)⟩
/-- xs[j] = flat data, xs an own list that may change -/
theorem q_setM {l : Addr} {xs : List V} (e : Ex G H) (ow : Owns M G H) (hm : M l = some (.lst xs)) (h : EvD K te σ (over G M) d) (hf : d.flat = true) (ho : EvO ta σ (over G M) l) (hi : EvD K tb σ (over G M) (.int j)) (hj : j < xs.length)
    (k : ∀ G1 H1, Step G (hideM M H) G1 H1 → Ex G G1 → Owns (upd M l (.lst (xs.set j d.toV))) G1 H1 → tz Dn σ H1) : tSeq (tAsg te (gSub ta tb rSetL)) tz Dn σ H :=
  h H (ow.ex e) _ fun v G1 H1 s1 r1 => (ho.mono s1.g) H1 s1.i _ fun G2 H2 s2 => (hi.mono (s1.g.trans s2.g)) H2 s2.i _ fun w G3 H3 s3 r3 => by
    obtain ⟨G4, s4, o4, _⟩ := ((s1.trans s2).trans s3).thawM ow
    have hv : v = d.toV := by
      cases d <;> first | (cases r1; rfl) | cases hf
    subst hv
    refine ⟨l, xs, (j : Int), j, rfl, r3.int_of, o4.h _ _ hm, Evl.ixN_nat hj, ?_⟩
    refine k G4 _ (((Step.startM e ow).trans s4).mut (hideM_some hm) (o4.g _ _ hm)) s4.g (o4.upd hm ⟨rfl, rfl⟩)
/-- self.f = a new list -/
theorem q_fldF (e : Ex G H) (hg : G o = none) (ho : H o = some (.ins C dx fs)) (hj : σ[j]? = some (some (.ref o))) (h : EvF K te σ G ds) (c : Cls K C) (n : NoAttr K C f) (hl : fs.length < 1000) (k : ∀ p xs G1 H1, Step G H G1 H1 → G1 o = none → H p = none → G1 p = none → H1 p = some (.lst xs) → p ≠ o → RpA K G1 xs ds → tz Dn σ (upd H1 o (.ins C dx (putF f (.ref p) fs)))) : tSeq (sFld K (tVar j) te f) tz Dn σ H :=
  h H e _ fun p xs G1 H1 s h1 h2 h3 r => ⟨_, hj, o, C, dx, fs, rfl, s.h.k o _ ho rfl, c, n, hl, k p xs G1 H1 s (s.n o _ hg ho rfl) h1 h2 h3 (fun z => by rw [z, ho] at h1; cases h1) r⟩
/-- self.f = a new list of new lists -/
theorem s_fldFF {R : List D → List (List D) → Prop} {E : XK} {r : List (List D)} (e : Ex G H) (hg : G o = none) (ho : H o = some (.ins C dx fs)) (hj : σ[j]? = some (some (.ref o))) (h : EvAs K as σ G ds) (hr : R ds r) (c : Cls K C) (n : NoAttr K C f) (hl : fs.length < 1000)
    (k : ∀ p ls G1 H1, Step G H G1 H1 → G1 o = none → H p = none → G1 p = none → H1 p = some (.lst (ls.map V.ref)) → p ∉ ls → p ≠ o → OwnLs G1 H H1 ls (r.map fun l => l.map D.toV) → Dn.nx σ (upd H1 o (.ins C dx (putF f (.ref p) fs)))) : sFld K (tVar j) (tCall (spFF K R) [] E as) f Dn σ H :=
  h H e _ fun vs G1 H1 s1 r1 => ⟨G1, ds, r, s1.i, by rw [List.append_nil]; exact r1, hr, fun p ls G2 H2 s2 h1 h2 h3 hp ow => by
    have s := s1.trans s2
    have np : p ≠ o := fun z => by rw [z, s1.h.k o _ ho rfl] at h1; cases h1
    exact ⟨_, hj, o, C, dx, fs, rfl, s.h.k o _ ho rfl, c, n, hl, k p ls G2 H2 s (s.n o _ hg ho rfl) (s1.pre h1) h2 h3 hp np (ow.pre fun l hl => s1.pre hl)⟩⟩
/-- x = a new list, read from own objects -/
theorem q_asgLM {i : Nat} (e : Ex G H) (ow : Owns M G H) (h : EvF K te σ (over G M) ds) (hd : D.tupOA ds = true) (k : ∀ v G1 H1, Step G H G1 H1 → Owns M G1 H1 → Rp K G1 v (.lst ds) → tz Dn (σ.set i (some v)) H1) : tSeq (tAsg te (gName i)) tz Dn σ H :=
  q_asgFM e ow h hd fun p xs G1 H1 s o1 h1 h2 h3 r => k _ _ H1 (s.freeze h1 h2 h3) ⟨fun b u hb => by
    have z : b ≠ p := fun z => by rw [z] at hb; rw [ow.h p u hb] at h1; cases h1
    rw [upd_ne z]
    exact o1.g b u hb, o1.h, o1.t⟩ (.lst upd_same (r.ex (Ex.new h2)))
theorem s_asgLM {i : Nat} (e : Ex G H) (ow : Owns M G H) (h : EvF K te σ (over G M) ds) (hd : D.tupOA ds = true) (k : ∀ v G1 H1, Step G H G1 H1 → Owns M G1 H1 → Rp K G1 v (.lst ds) → Dn.nx (σ.set i (some v)) H1) : tAsg te (gName i) Dn σ H := q_asgLM (tz := fun D σ H => D.nx σ H) (Dn := Dn) e ow h hd k
theorem g_four {j1 j2 j3 j4 : Nat} {d1 d2 d3 d4 : D} : EvG K (gTup K 4 (gCons (gName j1) (gCons (gName j2) (gCons (gName j3) (gCons (gName j4) gNil))))) (.tup [d1, d2, d3, d4]) [j1, j2, j3, j4] [d1, d2, d3, d4] := g_tup (g_cons g_name (g_cons g_name (g_cons g_name (g_cons g_name g_nil rfl) rfl) rfl) rfl) rfl
/-! ### own lists of times -/
abbrev usV (us : List Nat) : List V := us.map fun n : Nat => V.int n
structure Uls (M : Hp) (ls : List Addr) (uss : List (List Nat)) : Prop where
  nd : ls.Nodup
  len : ls.length = uss.length
  at_ : ∀ (i : Nat) (l : Addr) (us : List Nat), ls[i]? = some l → uss[i]? = some us → M l = some (.lst (usV us))
theorem nat_unt (us : List Nat) : RpA K G (usV us) (us.map fun n : Nat => D.int n) := by
  induction us with
  | nil => exact .nil
  | cons n us ih => exact .cons (.int _) ih
theorem Uls.mem {ls : List Addr} {uss : List (List Nat)} (u : Uls M ls uss) {l : Addr} (h : l ∈ ls) : ∃ us, M l = some (.lst (usV us)) := by
  obtain ⟨i, hi⟩ := List.getElem?_of_mem h
  have hl : i < uss.length := by
    rw [← u.len]
    exact (List.getElem?_eq_some_iff.mp hi).1
  exact ⟨_, u.at_ i l _ hi (List.getElem?_eq_getElem hl)⟩
theorem Uls.rp {ls : List Addr} {uss : List (List Nat)} (u : Uls M ls uss) : RpA K (over G M) (ls.map V.ref) (uss.map fun us : List Nat => D.lst (us.map fun n : Nat => D.int n)) := by
  have h1 := u.len
  have h2 := u.at_
  clear u
  induction ls generalizing uss with
  | nil =>
    cases uss with
    | nil => exact .nil
    | cons _ _ => cases h1
  | cons l ls ih =>
    cases uss with
    | nil => cases h1
    | cons us uss => exact .cons (.lst (over_some (h2 0 l us rfl rfl)) (nat_unt us)) (ih (by simpa using h1) fun i l us e1 e2 => h2 (i + 1) l us e1 e2)
theorem Uls.other {ls : List Addr} {uss : List (List Nat)} (u : Uls M ls uss) {l : Addr} {w : HO} (h : l ∉ ls) : Uls (upd M l w) ls uss := ⟨u.nd, u.len, fun i x us h1 h2 => by
  rw [upd_ne (fun z => h (by rw [← z]; exact List.mem_of_getElem? h1))]
  exact u.at_ i x us h1 h2⟩
theorem Uls.set {ls : List Addr} {uss : List (List Nat)} (u : Uls M ls uss) {t : Nat} {l : Addr} {us' : List Nat} (h : ls[t]? = some l) : Uls (upd M l (.lst (usV us'))) ls (uss.set t us') := by
  have ht := (List.getElem?_eq_some_iff.mp h).1
  refine ⟨u.nd, by rw [List.length_set]; exact u.len, fun i x us h1 h2 => ?_⟩
  by_cases z : i = t
  · subst z
    rw [h] at h1
    cases h1
    rw [List.getElem?_set_self (by rw [← u.len]; exact ht)] at h2
    cases h2
    exact upd_same
  · rw [List.getElem?_set_ne (Ne.symm z)] at h2
    have ne : x ≠ l := fun y => by
      subst y
      exact z ((List.getElem?_inj (List.getElem?_eq_some_iff.mp h1).1 u.nd).mp (by rw [h1, h]))
    rw [upd_ne ne]
    exact u.at_ i x us h1 h2
end
end J

/-! one own object as a set; loops over drawn slices. -/
namespace J
open PySem PySem.Spec PyProof.Rows L2 Evl
def own1 (p : Addr) (o : HO) : Hp := fun b => if b = p then some o else none
theorem own1_same {p : Addr} {o : HO} : own1 p o p = some o := if_pos rfl
theorem own1_of {p b : Addr} {o u : HO} (h : own1 p o b = some u) : b = p ∧ u = o := by
  unfold own1 at h
  split at h
  · rename_i z
    exact ⟨z, (Option.some.inj h).symm⟩
  · cases h
theorem own1_ne {p b : Addr} {o : HO} (h : b ≠ p) : own1 p o b = none := if_neg h
section
variable [Tbs] {K : PySem.W.Frag} {G G0 H0 G1 H H1 : Hp} {σ : L2.St} {te th : TE} {ds : List D} {Dn : Ends} {tu tz : TS} {g : TG} {p : Addr} {Rs : List D → Prop}
theorem Owns.one {q : Addr} {o : HO} (h1 : G q = none) (h2 : H q = some o) (h3 : isTup o = false ∧ isCode o = false) : Owns (own1 q o) G H := ⟨fun b u hb => by
  obtain ⟨z, _⟩ := own1_of hb; rw [z]; exact h1, fun b u hb => by
  obtain ⟨z, w⟩ := own1_of hb; rw [z, w]; exact h2, fun b u hb => by
  obtain ⟨_, w⟩ := own1_of hb; rw [w]; exact h3⟩
theorem cutD_take {ds : List D} {k : Nat} : cutD ds none (some (k : Int)) = ds.take k := by
  unfold cutD
  rw [HT.sIx_nat, HT.sIx_none, Nat.sub_zero, List.drop_zero]
  by_cases h : k ≤ ds.length
  · rw [Nat.min_eq_left h]
  · rw [Nat.min_eq_right (by omega), List.take_of_length_le (Nat.le_refl _), List.take_of_length_le (by omega)]
/-- xs[:n], n drawn -/
theorem rf_take {lo hi : Nat} (h : EvD K te σ G (.lst ds)) (hh : EvR K p th σ G (Btw lo hi)) : EvRF K p (tSl (rSlA K) te tNoPart (tPart th)) σ G (fun es => ∃ k : Nat, lo ≤ k ∧ es = ds.take k) := fun H e gp dc Q q =>
  h H e _ fun v G1 H1 s1 r1 => by
    have S1 := (Sd.refl e gp dc).then s1
    refine (hh.mono s1.g) H1 S1.ii S1.g S1.d _ fun w d G2 H2 s2 g2 d2 ⟨k, e2, h1, h2⟩ rp => ?_
    subst e2
    have S2 := S1.trans ⟨s2, g2, d2⟩
    obtain ⟨a, xs, rfl, hs, ha⟩ := (r1.ex (Sd.mk s2 g2 d2).gg).lst_of
    refine ⟨(k : Int), rp.int_of, .inl ⟨a, xs, rfl, .of (S2.ii _ _ hs), fun l hl => ?_⟩⟩
    have nl := S2.d.ne hl
    have z : cutV xs none (some (k : Int)) = xs.take k ∨ True := .inr trivial
    refine q l _ (ds.take k) G2 _ (S2.own hl) (S2.pre hl nl) (Step.back S2.ii hl) upd_same ⟨k, h1, rfl⟩ ?_
    have := ha.cut none (some (k : Int))
    rw [cutD_take] at this
    exact this
theorem i_list' {n : Nat} (hn : ds.length = n) (h : EvD K te σ G (.lst ds)) : EvI K (iList K te) σ G n (nth ds) := hn ▸ i_list h
/-- a loop over a drawn list -/
theorem s_seqR (S : Sd p G0 H0 G H) (h : EvRF K p te σ G Rs) (k : ∀ v ds G1 H1, Sd p G H G1 H1 → Sd p G0 H0 G1 H1 → Rs ds → Rp K G1 v (.lst ds) → tFor (iList K (tC v)) g tu Dn σ H1) : tFor (iSeq K te) g tu Dn σ H :=
  .inl (h H S.ii S.g S.d _ fun q xs ds G1 H1 s h1 h2 h3 h4 r => by
    have n := S.d.ne h1
    have s' := s.freeze n h1 h2 h3
    exact k _ ds _ H1 s' (S.trans s') h4 (.lst upd_same (r.ex (Ex.new h2))))
theorem q_seqR (S : Sd p G0 H0 G H) (h : EvRF K p te σ G Rs) (k : ∀ v ds G1 H1, Sd p G H G1 H1 → Sd p G0 H0 G1 H1 → Rs ds → Rp K G1 v (.lst ds) → tSeq (tFor (iList K (tC v)) g tu) tz Dn σ H1) : tSeq (tFor (iSeq K te) g tu) tz Dn σ H := s_seqR (Dn := { Dn with nx := tz Dn }) S h k
end
end J

/-! x in a list of data; own dicts of int/text keys; comprehensions over a dict's keys; loops over lists read from own objects. -/
namespace J
open PySem PySem.Spec PyProof.Rows L2 Evl
theorem hu65 {A : Around} {k : Nat} (hr : Room k A) : A.units + 65 < cLine := by have := hr.un; omega
theorem op_inDK {X : Cx} (K : PySem.W.Frag) (h : X.K = K) (hu : X.A.units + 65 < cLine) : OpR X (compareOp .In) (rInD K) := h ▸ op_inD hu
theorem op_ninDK {X : Cx} (K : PySem.W.Frag) (h : X.K = K) (hu : X.A.units + 65 < cLine) : OpR X (compareOp .NotIn) (rNotInD K) := h ▸ op_notInD hu
section
variable [Tbs] {K : PySem.W.Frag} {M G G0 H0 G1 H H1 G' H' : Hp} {σ : L2.St} {te ta tb tk : TE} {ds es : List D} {d d1 : D} {Dn : Ends} {tu tz : TS} {g : TG} {p : Addr} {i : Nat}
theorem e_inD (ha : EvD K ta σ G d1) (hb : EvD K tb σ G (.lst ds)) (h1 : d1.ok = true) (h2 : (D.lst ds).ok = true) : EvD K (tOp (rInD K) ta tb) σ G (.bl ((D.pyA ds).any fun z => PyData.eqv z d1.py)) :=
  e_op ha hb fun x y G1 H1 Q e1 e2 r1 r2 k => by
    unfold D.ok at h1 h2
    rw [Bool.and_eq_true] at h1 h2
    exact ⟨d1.py, D.pyA ds, (r1.ex e2).dp h1.1, (r2.ex e2).dp h2.1, h1.2, h2.2, k _ G1 H1 (Step.refl e2) (.bl _)⟩
theorem e_ninD (ha : EvD K ta σ G d1) (hb : EvD K tb σ G (.lst ds)) (h1 : d1.ok = true) (h2 : (D.lst ds).ok = true) : EvD K (tOp (rNotInD K) ta tb) σ G (.bl (!(D.pyA ds).any fun z => PyData.eqv z d1.py)) :=
  e_op ha hb fun x y G1 H1 Q e1 e2 r1 r2 k => by
    unfold D.ok at h1 h2
    rw [Bool.and_eq_true] at h1 h2
    exact ⟨d1.py, D.pyA ds, (r1.ex e2).dp h1.1, (r2.ex e2).dp h2.1, h1.2, h2.2, k _ G1 H1 (Step.refl e2) (.bl _)⟩
/-! ### new dicts -/
def EvFK (te : TE) (σ : L2.St) (G : Hp) (kvs : List (Key × V)) : Prop := ∀ H, Ex G H → ∀ Q : VK, (∀ p G' H', Step G H G' H' → H p = none → G' p = none → H' p = some (.dK kvs) → Q (.ref p) H') → te σ H Q
theorem fk_dictP {kvs : List (Key × V)} (ha : EvD K ta σ G (.lst ds)) (hd : ds = kvs.map fun kv => D.tup [kD kv.1, vD kv.2]) (hs : ∀ kv ∈ kvs, scalV kv.2 = true) : EvFK (tCB (rDictP K) (tCons ta tNil)) σ G (mergeK [] kvs) := fun H e Q q =>
  a_one ha H e _ fun vs G1 H1 s1 r => by
    subst hd
    obtain ⟨v, rfl, rr⟩ := r.one
    obtain ⟨a, xs, rfl, h1, h2⟩ := rr.lst_of
    obtain ⟨ps, rfl, pr⟩ := (h2.ex s1.i).pairsK hs
    exact ⟨a, ps, kvs, rfl, .of (s1.i _ _ h1), pr, fun p hp => q p G1 _ (s1.trans (Step.own s1.i hp)) (s1.pre hp) (Step.back s1.i hp) upd_same⟩
/-- x = a new dict, read from own objects -/
theorem q_asgKM {kvs : List (Key × V)} (e : Ex G H) (ow : Owns M G H) (h : EvFK te σ (over G M) kvs) (k : ∀ p G1 H1, Step G H G1 H1 → Owns M G1 H1 → H p = none → G1 p = none → H1 p = some (.dK kvs) → tz Dn (σ.set i (some (.ref p))) H1) : tSeq (tAsg te (gName i)) tz Dn σ H :=
  h H (ow.ex e) _ fun p G1 H1 s h1 h2 h3 => by
    obtain ⟨G2, s2, o2, _, fr, _⟩ := s.thawM ow
    exact k p G2 H1 s2 o2 h1 (fr p h2) h3
/-! ### loops over lists read from own objects -/
theorem s_seqM (e : Ex G H) (ow : Owns M G H) (h : EvF K te σ (over G M) ds) (hd : D.tupOA ds = true) (k : ∀ v G1 H1, Step G H G1 H1 → Owns M G1 H1 → Rp K G1 v (.lst ds) → tFor (iList K (tC v)) g tu Dn σ H1) : tFor (iSeq K te) g tu Dn σ H :=
  .inl (h.own hd e ow _ fun q xs G1 H1 s o1 h1 h2 h3 r => k _ _ H1 (s.freeze h1 h2 h3) ⟨fun b u hb => by
    have z : b ≠ q := fun z => by rw [z] at hb; rw [ow.h q u hb] at h1; cases h1
    rw [upd_ne z]
    exact o1.g b u hb, o1.h, o1.t⟩ (.lst upd_same (r.ex (Ex.new h2))))
theorem q_seqM (e : Ex G H) (ow : Owns M G H) (h : EvF K te σ (over G M) ds) (hd : D.tupOA ds = true) (k : ∀ v G1 H1, Step G H G1 H1 → Owns M G1 H1 → Rp K G1 v (.lst ds) → tSeq (tFor (iList K (tC v)) g tu) tz Dn σ H1) : tSeq (tFor (iSeq K te) g tu) tz Dn σ H := s_seqM (Dn := { Dn with nx := tz Dn }) e ow h hd k
/-! ### a dict that is locked -/
theorem walkD_keys {d : Addr} {o : Obj} {kvs : List (Key × V)} (h : G d = some (.frz o (.dK kvs))) : WalkD K (Itk d o kvs) kvs.length G (nth (kvs.map fun kv => kD kv.1)) where
  goes := fun i H hi e => ⟨e _ _ h, hi⟩
  stops := fun H e => ⟨e _ _ h, Nat.le_refl _⟩
  yields := fun i G1 H x H' hi e1 e2 y => by
    obtain ⟨rfl, k, v, hk, rfl⟩ := y
    refine ⟨G1, Step.refl e2, ?_⟩
    rw [nth_map hk]
    cases k <;> first | exact .int _ | exact .str _
theorem i_keysZ {j : Nat} {d : Addr} {o : Obj} {kvs : List (Key × V)} (hj : σ[j]? = some (some (.ref d))) (h : G d = some (.frz o (.dK kvs))) : EvI K (iKeys (tVar j)) σ G kvs.length (nth (kvs.map fun kv => kD kv.1)) := fun H e R q =>
  ⟨_, hj, d, o, rfl, .inl ⟨kvs, e _ _ h, q _ G H (Step.refl e) (walkD_keys h)⟩⟩
theorem e_dgetZ {j : Nat} {dd : Addr} {o : Obj} {kvs : List (Key × V)} {k : Key} {v : V} (hj : σ[j]? = some (some (.ref dd))) (h : G dd = some (.frz o (.dK kvs))) (hb : EvD K tb σ G (kD k)) (hv : valV kvs k = some v) (hs : scalV v = true) : EvD K (tDGet (tVar j) tb) σ G (vD v) := fun H e Q q =>
  ⟨_, hj, hb H e _ fun y G1 H1 s r => by
    have hy : y = kV k := by cases k <;> (cases r; rfl)
    subst hy
    refine ⟨dd, v, rfl, .inl ⟨kvs, k, .inr ⟨o, s.i _ _ (s.g _ _ h)⟩, rfl, hv.symm⟩, q v G1 H1 s ?_⟩
    cases v <;> first | exact .non | exact .bl _ | exact .int _ | exact .str _ | cases hs⟩
theorem e_dgetK {kvs : List (Key × V)} {k : Key} {v : V} (ha : EvD K ta σ G (.dic kvs)) (hb : EvD K tb σ G (kD k)) (hv : valV kvs k = some v) (hs : scalV v = true) : EvD K (tDGet ta tb) σ G (vD v) := fun H e Q q =>
  ha H e _ fun x G1 H1 s1 r1 => (hb.mono s1.g) H1 s1.i _ fun y G2 H2 s r => by
    obtain ⟨a, rfl, ha⟩ := r1.dic_of
    have hy : y = kV k := by cases k <;> (cases r; rfl)
    subst hy
    refine ⟨a, v, rfl, .inl ⟨kvs, k, .inl (s.i _ _ (s.g _ _ ha)), rfl, hv.symm⟩, q v G2 H2 (s1.trans s) ?_⟩
    cases v <;> first | exact .non | exact .bl _ | exact .int _ | exact .str _ | cases hs
/-- what an own object is again at the end: nothing hidden -/
theorem Step.unhide {q : Addr} {u : HO} (e : Ex G H) (g0 : G q = none) (x0 : H q = some u) (nc : isCode u = false) (s : Step G (hideM (own1 q u) H) G1 H1) (g1 : G1 q = none) (x1 : H1 q = some u) : Step G H G1 H1 := by
  have hne : ∀ b, b ≠ q → hideM (own1 q u) H b = H b := fun b hb => hideM_none (own1_ne hb)
  refine ⟨s.g, s.i, ⟨fun b w hb t => ?_, fun b ps hb => ?_⟩, fun b w h1 h2 h3 => ?_, fun b w h1 h2 h3 => ?_⟩
  · by_cases z : b = q
    · subst z; rw [x0] at hb; cases hb; exact x1
    · exact s.h.k b w (by rw [hne b z]; exact hb) t
  · by_cases z : b = q
    · subst z; rw [x0] at hb; cases hb; cases nc
    · obtain ⟨ps', h1, gr⟩ := s.h.t b ps (by rw [hne b z]; exact hb)
      refine ⟨ps', h1, fun ht => ?_⟩
      obtain ⟨h2, h3⟩ := gr ht
      refine ⟨h2, fun pos cv hc => (h3 pos cv hc).elim .inl fun ⟨c, e1, e2⟩ => .inr ⟨c, e1, ?_⟩⟩
      exact e2
  · by_cases z : b = q
    · subst z; exact g1
    · exact s.n b w h1 (by rw [hne b z]; exact h2) h3
  · have z : b ≠ q := fun z => by rw [z, x0] at h1; cases h1
    exact s.c b w (by rw [hne b z]; exact h1) h2 h3
/-- an expression under a lock on an own dict -/
theorem f_lockK {dd : Addr} {kvs : List (Key × V)} (e : Ex G H) (hg : G dd = none) (hx : H dd = some (.dK kvs)) (h : ∀ o : Obj, EvF K te σ (upd G dd (.frz o (.dK kvs))) ds) (hd : D.tupOA ds = true) (Q : VK) (k : ∀ v G1 H1, Step G H G1 H1 → G1 dd = none → H1 dd = some (.dK kvs) → Rp K G1 v (.lst ds) → Q v H1) : tLockE te σ H Q :=
  ⟨dd, .dK kvs, hx, trivial, fun od => by
    have ow0 : Owns (own1 dd (.dK kvs)) G H := Owns.one hg hx ⟨rfl, rfl⟩
    have s0 : Step G (hideM (own1 dd (.dK kvs)) H) G (upd H dd (.frz od (.dK kvs))) := (Step.startM e ow0).mut (hideM_some own1_same) hg
    have ow1 : Owns (own1 dd (.frz od (.dK kvs))) G (upd H dd (.frz od (.dK kvs))) := Owns.one hg upd_same ⟨rfl, rfl⟩
    have eo : over G (own1 dd (.frz od (.dK kvs))) = upd G dd (.frz od (.dK kvs)) := by
      funext b
      by_cases z : b = dd
      · subst z; rw [over_some own1_same, upd_same]
      · rw [over_none (own1_ne z), upd_ne z]
    refine EvF.own (K := K) (M := own1 dd (.frz od (.dK kvs))) (G := G) (by rw [eo]; exact h od) hd s0.i ow1 _ fun p xs G1 H1 s1 o1 h1 h2 h3 r => ?_
    have hz := o1.h dd _ own1_same
    have gz := o1.g dd _ own1_same
    have npd : p ≠ dd := fun z => by rw [z, upd_same] at h1; cases h1
    refine ⟨hz, ?_⟩
    have s2 := (s0.trans s1).mut (o := .dK kvs) (hideM_some own1_same) gz
    have s3 := Step.unhide e hg hx rfl s2 gz upd_same
    have hp : H p = none := by rw [upd_ne npd] at h1; exact h1
    have s4 := s3.freeze hp h2 (by rw [upd_ne npd]; exact h3)
    exact k _ _ _ s4 (by rw [upd_ne (Ne.symm npd)]; exact gz) upd_same (.lst upd_same (r.ex (Ex.new h2)))⟩
end
end J

/-! d.update(o), both with keys that are pairs of small numbers. -/
namespace J
open PySem PySem.Spec PyProof.Rows L2 Evl
theorem KT.merge2 {H : Hp} : ∀ {more : List (List Key × V)} {ms : List (List Key × Addr × Value)} {kvs : List (List Key × V)} {xs : List (List Key × Addr × Value)}, KT H more ms → KT H kvs xs → KT H (mergeT kvs more) (storedAllH xs ms)
  | [], _, _, _, r, q => by cases r; exact q
  | kv :: more, _, kvs, xs, r, q => by
    cases r with
    | cons h t =>
      rename_i m ms
      obtain ⟨h1, h2, h3⟩ := h
      have z := KT.merge2 t (q.put kv.1 (by first | exact h2 | (rw [h1]; exact h2)) h3)
      show KT H (mergeT (putK kvs kv.1 kv.2) more) (storedAllH (storedH xs m.1 m.2.1 m.2.2) ms)
      rw [← h1]
      exact z
/-- d.update(o) -/
def tDUpdT (td ty : TE) : TE := fun σ H Q => td σ H fun x H1 => ∃ a, x = .ref a ∧ IsD H1 a ∧ ty σ H1 fun y H2 => ∃ (b : Addr) (kvs more : List (List Key × V)), y = .ref b ∧ H2 a = some (.dT kvs) ∧ H2 b = some (.dT more) ∧ a ≠ b ∧ Small (more.map (·.1)) ∧ kvs.length + more.length ≤ sizeLine ∧ (mergeT kvs more).length ≤ sizeLine ∧ Q .non (upd H2 a (.dT (mergeT kvs more)))
theorem pe_dupdT {X : Cx} {o e : Expr} {td ty : TE} {apos cpos : Pos} (hu : X.A.units + 64 < cLine) (ho : PE X o td) (he : PE X e ty) (m : M1 X o "update" apos e cpos) : PE X (.Call (.Attribute o "update" apos) [e] [] cpos) (tDUpdT td ty) := by
  refine ⟨fun pins s σ H Q I h => ?_⟩
  refine wpAny_Call_method m.base m.few m.line PySem.F.plainAttrs_dict PySem.F.slot_dict_update PySem.F.type_dict_update (thn (ho.run pins s σ H _ I h) fun u s1 ⟨x, H1, I1, rx, a, ex, d, q1⟩ => ?_)
  subst ex
  obtain rfl : u = Value.ref a := rx
  obtain ⟨t1, t2, _⟩ := isD_at I1 d
  refine ⟨t1, t2, ?_⟩
  rw [m.trees]
  refine Calls.callWith_builtin rfl (Calls.evalArgs_plain (Calls.spliced_cons (thn (he.run pins s1 σ H1 _ I1 q1) fun iv s2 ⟨y, H2, I2, ry, b, kvs, more, ey, ea, eb, nab, hs, hz, hz2, q2⟩ => Calls.spliced_nil ?_)))
  subst ey
  cases (show iv = Value.ref b from ry)
  obtain ⟨z0, hd, xs, rel, dd⟩ := dt_of I2.hok ea
  obtain ⟨z1, ho', ms, rel2, dd2⟩ := dt_of I2.hok eb
  have l1 : xs.length = kvs.length := (Paired.length rel).symm
  have l2 : ms.length = more.length := (Paired.length rel2).symm
  refine call_update_dictH (knd := tupleKind (mixKind X.prog X.w)) ?_ nab ho' dd dd2 (.inr ⟨fun x hx => ?_, ?_⟩) (by rw [l1, l2]; exact hz) fun h' dd' _ sb => ?_
  · show X.A.in1.units < cLine
    have z : X.A.in1.units = X.A.units + 1 := rfl
    rw [z]
    omega
  · obtain ⟨ys, hy⟩ := kt_tups rel2 x hx
    obtain ⟨its, rv, p, hz⟩ := I2.tuple (SqT.of hy)
    exact p.typeIs
  · have e := small_apart (P := X.prog) (w := X.w) hs
    rw [kt_keys rel2, List.map_map] at e
    exact e
  · obtain ⟨q, es, ep, hq, h2, h3, h4, _, h5⟩ := dd'
    refine ⟨.non, _, d_write (t' := s2.toks) (ob := .dT (mergeT kvs more)) I2 (by rw [ea]; exact True.intro) sb ⟨q, hq⟩ ⟨hz2, hd, _, (KT.merge2 rel2 rel).keeps fun c ys ec => ?_, q, es, ep, hq, h2, h3, h4, h5⟩, rfl, q2⟩
    rw [upd_ne (ne_of ec ea (fun z => nomatch z))]
    exact ec
section
variable [Tbs] {K : PySem.W.Frag} {G G0 H0 G1 H H1 : Hp} {σ : L2.St} {te tb : TE} {ds : List D} {Dn : Ends} {tz : TS} {g gg : TG} {p : Addr} {Rs : List D → Prop} {wi : TI} {n : Nat} {Y : Nat → D} {js : List Nat}
/-! ### comprehensions whose items are drawn -/
theorem f_lcE {vs : List Nat} (E : Nat → List D) (RR : Nat → D → Prop) (hi : EvI K wi σ G n Y) (hg : ∀ i, i < n → EvG K g (Y i) js (E i)) (hz : n ≤ 1000000)
    (hl : ∀ i, i < n → (E i).length = js.length)
    (hw : ∀ us : List V, us.length = js.length → wipe (setAll (wipe σ vs) js us) vs = wipe σ vs)
    (he : ∀ i, i < n → ∀ G1, Ex G G1 → ∀ us, RpA K G1 us (E i) → EvR K p te (setAll (wipe σ vs) js us) G1 (RR i)) : EvRF K p (tLc wi g tYes te vs) σ G (fun ds => ds.length = n ∧ ∀ i d, ds[i]? = some d → RR i d) := fun H e gp dc Q q =>
  hi H e _ fun J G1 H1 s1 wk Dl hD => by
    have S1 := (Sd.refl e gp dc).then s1
    have nD : Dl ≠ p := S1.d.ne hD
    have hDh : H Dl = none := S1.pre hD nD
    refine ⟨fun i m H' => m = n - i ∧ i ≤ n ∧ ∃ G' xs ds, Sd p G H G' H' ∧ Ex G1 G' ∧ G' Dl = none ∧ H' Dl = some (.lst xs) ∧ RpA K G' xs ds ∧ ds.length = i ∧ ∀ j d, ds[j]? = some d → RR j d, ⟨n, by omega, Nat.zero_le _, G1, [], [], S1.own hD, Ex.refl _, Step.back S1.s.i hD, upd_same, .nil, rfl, fun j d h => by simp at h⟩, ?_⟩
    rintro i m H' ⟨rfl, hi', G', xs, ds, S2, e2, hD1, hD2, r2, hdl, hR⟩
    by_cases hlt : i < n
    · refine .inr ⟨wk.goes i H' hlt (e2.trans S2.ii), fun H2 => i + 1 ≤ n ∧ ∃ G' xs ds, Sd p G H G' H2 ∧ Ex G1 G' ∧ G' Dl = none ∧ H2 Dl = some (.lst xs) ∧ RpA K G' xs ds ∧ ds.length = i + 1 ∧ ∀ j d, ds[j]? = some d → RR j d, fun H2 pp => ⟨n - (i + 1), by omega, rfl, pp⟩, fun x H2 y => ?_⟩
      obtain ⟨G2, s3, r3⟩ := wk.yields i G' H' x H2 hlt e2 S2.ii y
      refine hg i hlt G2 H2 x _ _ s3.i r3 fun us ru => ⟨hw us (by rw [ru.len]; exact hl i hlt), ?_⟩
      obtain ⟨g3, k3⟩ := s3.keep hD1 hD2
      have S3 := S2.then s3
      show te (setAll (wipe σ vs) js us) H2 _
      refine (he i hlt G2 S3.gg us ru) H2 S3.ii S3.g S3.d _ fun v d G4 H4 s5 g5' d5 rd r5 => ?_
      have S45 : Sd p G2 H2 G4 H4 := ⟨s5, g5', d5⟩
      obtain ⟨g5, k5⟩ := S45.keep nD g3 k3
      have S5 := S3.trans S45
      refine ⟨xs, k5, ?_, hlt, G4, xs ++ [v], ds ++ [d], S5.mut nD hDh g5, e2.trans (s3.g.trans S45.gg), g5, upd_same, (r2.ex (s3.g.trans S45.gg)).snoc r5, by rw [List.length_append, hdl]; rfl, fun j x hx => ?_⟩
      · rw [r2.len, hdl, sizeLine_eq]
        omega
      · by_cases z : j < ds.length
        · rw [List.getElem?_append_left z] at hx
          exact hR j x hx
        · rw [List.getElem?_append_right (by omega)] at hx
          have hj : j - ds.length = 0 := by
            cases q : j - ds.length with
            | zero => rfl
            | succ k => rw [q] at hx; simp at hx
          rw [hj] at hx
          have hx : d = x := Option.some.inj hx
          subst hx
          have : j = i := by omega
          rw [this]
          exact rd
    · have z : i = n := by omega
      subst z
      exact .inl ⟨wk.stops H' (e2.trans S2.ii), q Dl xs ds G' H' S2 hDh hD1 hD2 ⟨hdl, hR⟩ r2⟩
/-- x = f([.. for .. in xs]), xs drawn -/
theorem q_lcIn {r : List V → Hp → VK → Prop} {tt : TT} {el : TE} {vs : List Nat} (S : Sd p G0 H0 G H) (h : EvRF K p te σ G Rs) (k : ∀ v ds G1 H1, Sd p G H G1 H1 → Sd p G0 H0 G1 H1 → Rs ds → Rp K G1 v (.lst ds) → tSeq (tAsg (tCB r (tCons (tLc (iList K (tC v)) g tt el vs) tNil)) gg) tz Dn σ H1) : tSeq (tAsg (tCB r (tCons (tLc (iSeq K te) g tt el vs) tNil)) gg) tz Dn σ H :=
  .inl (h H S.ii S.g S.d _ fun q xs ds G1 H1 s h1 h2 h3 h4 r => by
    have n := S.d.ne h1
    have s' := s.freeze n h1 h2 h3
    exact k _ ds _ H1 s' (S.trans s') h4 (.lst upd_same (r.ex (Ex.new h2))))
/-! ### a dict that is data, locked for a while -/
theorem Ex.swap {A B : Hp} {d : Addr} {u w : HO} (e : Ex A B) (ha : A d = some u) (hc : isCode u = false) (hw : isCode w = false) : Ex (upd A d w) (upd B d w) := by
  have hb := e.k d u ha (isTbl_code hc)
  refine ⟨fun b o hbo t => ?_, fun b ps hbo => ?_⟩
  · by_cases z : b = d
    · subst z; rw [upd_same] at hbo ⊢; exact hbo
    · rw [upd_ne z] at hbo ⊢; exact e.k b o hbo t
  · have z : b ≠ d := fun z => by subst z; rw [upd_same] at hbo; cases hbo; cases hw
    rw [upd_ne z] at hbo ⊢
    obtain ⟨ps', h1, gr⟩ := e.t b ps hbo
    refine ⟨ps', h1, fun ht => ?_⟩
    obtain ⟨h2, h3⟩ := gr ht
    refine ⟨h2, fun pos cv hcv => (h3 pos cv hcv).elim .inl fun ⟨c, e1, e2⟩ => .inr ⟨c, e1, ?_⟩⟩
    rw [upd_ne (fun z => by rw [z, hb] at e2; cases e2; cases hc)]
    exact e2
theorem upd_back {A : Hp} {d : Addr} {u w : HO} (h : A d = some u) : upd (upd A d w) d u = A := by
  funext b
  by_cases z : b = d
  · subst z; rw [upd_same, h]
  · rw [upd_ne z, upd_ne z]
theorem hide_upd {A : Hp} {d : Addr} {w : HO} (n : d ≠ p) : hide p (upd A d w) = upd (hide p A) d w := by
  funext b
  by_cases z : b = p
  · subst z; rw [hide_p, upd_ne (Ne.symm n), hide_p]
  · rw [hide_ne z]
    by_cases y : b = d
    · subst y; rw [upd_same, upd_same]
    · rw [upd_ne y, upd_ne y, hide_ne z]
theorem Step.swap {d : Addr} {u w : HO} (ha : G d = some u) (hb : H d = some u) (hc : isCode u = false) (hw : isCode w = false) (s : Step (upd G d w) (upd H d w) G1 H1) : Step G H (upd G1 d u) (upd H1 d u) := by
  have g1 : G1 d = some w := s.g.k d w upd_same (isTbl_code hw)
  have eg := s.g.swap (w := u) upd_same hw hc
  have eh := s.h.swap (w := u) upd_same hw hc
  rw [upd_back ha] at eg
  rw [upd_back hb] at eh
  refine ⟨eg, s.i.swap g1 hw hc, eh, fun b o h1 h2 h3 => ?_, fun b o h1 h2 h3 => ?_⟩
  · have z : b ≠ d := fun z => by rw [z, ha] at h1; cases h1
    rw [upd_ne z]
    exact s.n b o (by rw [upd_ne z]; exact h1) (by rw [upd_ne z]; exact h2) h3
  · have z : b ≠ d := fun z => by rw [z, hb] at h1; cases h1
    rw [upd_ne z] at h2 ⊢
    exact s.c b o (by rw [upd_ne z]; exact h1) h2 h3
theorem walkD_keysT {d : Addr} {o : Obj} {kvs : List (List Key × V)} (h : G d = some (.frz o (.dT kvs))) : WalkD K (Itkt d o kvs) kvs.length G (nth (kvs.map fun kv => D.tup (kv.1.map kD))) where
  goes := fun i H hi e => ⟨e _ _ h, hi⟩
  stops := fun H e => ⟨e _ _ h, Nat.le_refl _⟩
  yields := fun i G1 H x H' hi e1 e2 y => by
    obtain ⟨rfl, k, v, q, hk, rfl, hq⟩ := y
    refine ⟨_, Step.tup e2 hq, ?_⟩
    rw [nth_map hk]
    refine .tup upd_same ?_
    have : ∀ ks : List Key, RpA K (upd G1 q (.tup (k.map kV))) (ks.map kV) (ks.map kD) := by
      intro ks
      induction ks with
      | nil => exact .nil
      | cons a ks ih => exact .cons (by cases a <;> first | exact .int _ | exact .str _) ih
    exact this k
theorem i_keysT {j : Nat} {d : Addr} {o : Obj} {kvs : List (List Key × V)} (hj : σ[j]? = some (some (.ref d))) (h : G d = some (.frz o (.dT kvs))) : EvI K (iKeys (tVar j)) σ G kvs.length (nth (kvs.map fun kv => D.tup (kv.1.map kD))) := fun H e R q =>
  ⟨_, hj, d, o, rfl, .inr ⟨kvs, e _ _ h, q _ G H (Step.refl e) (walkD_keysT h)⟩⟩
/-- a drawn list told while a dict that is data is locked -/
theorem rf_lockT {d : Addr} {kvs : List (List Key × V)} (hd : G d = some (.dT kvs)) (nd : d ≠ p) (h : ∀ o : Obj, EvRF K p te σ (upd G d (.frz o (.dT kvs))) Rs) (ht : ∀ ds, Rs ds → D.tupOA ds = true) : EvRF K p (tLockE te) σ G Rs := fun H e gp dc Q q =>
  ⟨d, .dT kvs, e _ _ hd, trivial, fun od => by
    have hx := e _ _ hd
    have e2 : Ex (upd G d (.frz od (.dT kvs))) (upd H d (.frz od (.dT kvs))) := e.swap hd rfl rfl
    refine h od _ e2 (by rw [upd_ne (Ne.symm nd)]; exact gp) (dc.mut nd) _ fun l xs ds G1 H1 s h1 h2 h3 h4 r => ?_
    have ss := s.s
    rw [hide_upd nd] at ss
    have g1 : G1 d = some (.frz od (.dT kvs)) := ss.g.k d _ upd_same rfl
    have x1 : H1 d = some (.frz od (.dT kvs)) := ss.i.k d _ g1 rfl
    have nl : l ≠ d := fun z => by rw [z, upd_same] at h1; cases h1
    have s2 := Step.swap hd (by rw [hide_ne nd]; exact hx) rfl rfl ss
    refine ⟨x1, q l xs ds _ _ ⟨s2, by rw [upd_ne (Ne.symm nd)]; exact s.g, s.d.mut nd⟩ (by rw [upd_ne nl] at h1; exact h1) (by rw [upd_ne nl]; exact h2) (by rw [upd_ne nl]; exact h3) h4 (r.off (fun b ys hb => ?_) (ht ds h4))⟩
    rw [upd_ne (fun z => by rw [z, g1] at hb; cases hb)]
    exact hb⟩
end
end J

/-! sorted(xs) of data that can be compared. -/
namespace J
open PySem PySem.Spec PyProof.Rows L2 Evl
def rSortedD (K : PySem.W.Frag) : List V → Hp → VK → Prop := fun vs H Q => ∃ (a : Addr) (bs : List (V × PyData)), vs = [V.ref a] ∧ SqL K H a (bs.map (·.1)) ∧ DpAll K H (bs.map (·.1)) (bs.map (·.2)) ∧ PySem.W.AllAlike (bs.map (·.2)) ∧ PySem.W.Sortable (bs.map (·.2)) ∧ bs.length ≤ 1000000 ∧ (∀ b ∈ bs, b.2.depth ≤ 20) ∧
  ∀ p, H p = none → Q (.ref p) (upd H p (.lst ((bs.mergeSort (PySem.W.dataLe false fun b : V × PyData => b.2)).map (·.1))))
theorem each_dp {K : PySem.W.Frag} {X : Cx} {pins : List (Addr × Obj)} {σ : L2.St} {H : Hp} {s : Shared} (I : Inv X pins σ H s) (hK : X.K = K) : ∀ {bs : List (V × PyData)} {its : List Value}, Vals (bs.map (·.1)) its → DpAll K H (bs.map (·.1)) (bs.map (·.2)) → PySem.W.EachIs (fun (v : Value) (b : V × PyData) => RelV b.1 v ∧ ∃ as, Reads s.heap v b.2 as) its bs
  | [], _, r, _ => by cases r; exact .nil
  | b :: bs, _, r, d => by
    cases r with
    | cons r1 r2 =>
      cases d with
      | cons d1 d2 =>
        refine .cons ⟨r1, ?_⟩ (each_dp I hK r2 d2)
        subst hK
        exact Dp.reads I _ _ _ d1 r1
theorem cr_sortedD {X : Cx} (hu : X.A.units + 64 < cLine) : CallR X (.builtin "sorted") (rSortedD X.K) := by
  intro pins s σ H vs us Q I r h
  obtain ⟨a, bs, rfl, hs, hd, hal, hk, hl, hdp, q⟩ := h
  obtain ⟨its, rv, pl, hz⟩ := I.list hs
  rw [Vals.ref1 r]
  have er := each_dp I rfl rv hd
  refine PySem.W.sorted_data (enc := fun b : V × PyData => b.2) (R := fun v b => RelV b.1 v) pl.isList (er.mono fun _ _ h => h.1) (er.mono fun _ _ h => h.2) hal hk (by rw [sizeLine_eq]; omega) (fun b hb => ?_) fun out hlen hout => ?_
  · have := hdp b hb
    omega
  · have ev : Vals ((bs.mergeSort (PySem.W.dataLe false fun b : V × PyData => b.2)).map (·.1)) out := by
      generalize bs.mergeSort (PySem.W.dataLe false fun b : V × PyData => b.2) = cs at hout
      clear hlen
      induction hout with
      | nil => exact .nil
      | cons h1 _ ih => exact .cons h1 ih
    obtain ⟨e, hget⟩ := sortedAll_at s.heap its (List.toArray out)
    have hz3 : ((bs.mergeSort (PySem.W.dataLe false fun b : V × PyData => b.2)).map (·.1)).length ≤ sizeLine := by
      rw [List.length_map, List.length_mergeSort, sizeLine_eq]
      omega
    exact ⟨.ref _, upd H (s.heap.objs.size + 1) (.lst ((bs.mergeSort (PySem.W.dataLe false fun b : V × PyData => b.2)).map (·.1))), I.laid (t' := s.toks) (fun b o hb => sortedAll_old hb) (Nat.le_succ _) ⟨hz3, out, e, ev, hget⟩, rfl, q _ (I.hok.fresh (Nat.le_succ _))⟩
theorem cr_sortedDK {X : Cx} (K : PySem.W.Frag) (h : X.K = K) (hu : X.A.units + 64 < cLine) : CallR X (.builtin "sorted") (rSortedD K) := h ▸ cr_sortedD hu
theorem mt_indexK {X : Cx} (K : PySem.W.Frag) (h : X.K = K) : MtR X "list.index" (rIndex K) := h ▸ mt_index
theorem pe_bmK {X : Cx} (K : PySem.W.Frag) (h : X.K = K) {T id : String} {name : Str} {r : V → List V → Hp → VK → Prop} {o e : Expr} {es : List Expr} {to : TE} {t : TA} {apos cpos : Pos} (pa : PlainAttrs T) (slot : Slot T name id) (hty : typeOf (.builtin id) = pure (.type "method_descriptor")) (hm : MtR X id r) (ho : PE X o to) (ha : PA X (e :: es) t)
    (hbase : attributeBase o name X.env (eval o X.env) = eval o X.env := by rfl)
    (hfew : ((backTo cpos (starEach (e :: es) X.env)).all (fun x => !x.1) && (backToKw cpos (keywordEach [] X.env)).all (fun x => x.1.isSome)
      && decide ((e :: es).length + ([] : List Keyword).length + (if ([] : List Keyword).isEmpty then 0 else 1) < 30)) = true := by rfl)
    (hline : (apos.endLine == cpos.line) = true := by rfl) (hs : starEach (e :: es) X.env = (false, eval e X.env) :: starEach es X.env := by rfl) (hplain : (backTo cpos (starEach es X.env)).any (·.1) = false := by rfl) :
    PE X (.Call (.Attribute o name apos) (e :: es) [] cpos) (tBM K T r to t) := h ▸ pe_bm pa slot hty hm ho ha hbase hfew hline hs hplain
/-! ### comprehensions' names -/
theorem wipe_in {σ : L2.St} {i : Nat} : ∀ {vs : List Nat}, i ∈ vs → (wipe σ vs)[i]? = if i < σ.length then some none else none
  | v :: vs, h => by
    show ((wipe σ vs).set v none)[i]? = _
    by_cases e : v = i
    · subst e
      rw [List.getElem?_set, if_pos rfl, wipe_length]
    · rw [List.getElem?_set_ne e]
      exact wipe_in ((List.mem_cons.mp h).resolve_left fun z => e z.symm)
theorem setAll_length : ∀ (σ : L2.St) (js : List Nat) (us : List V), (setAll σ js us).length = σ.length
  | _, [], _ => rfl
  | _, _ :: _, [] => rfl
  | σ, j :: js, u :: us => by
    show (setAll (σ.set j (some u)) js us).length = _
    rw [setAll_length, List.length_set]
theorem setAll_out {i : Nat} : ∀ {σ : L2.St} {js : List Nat} {us : List V}, i ∉ js → (setAll σ js us)[i]? = σ[i]?
  | _, [], _, _ => rfl
  | _, _ :: _, [], _ => rfl
  | σ, j :: js, u :: us, h => by
    rw [List.mem_cons, not_or] at h
    show (setAll (σ.set j (some u)) js us)[i]? = _
    rw [setAll_out h.2, List.getElem?_set_ne fun z => h.1 z.symm]
theorem wipe_set {σ : L2.St} {vs js : List Nat} {us : List V} (h : ∀ j ∈ js, j ∈ vs) : wipe (setAll (wipe σ vs) js us) vs = wipe σ vs := by
  apply List.ext_getElem?
  intro i
  by_cases hi : i ∈ vs
  · rw [wipe_in hi, wipe_in hi, setAll_length, wipe_length]
  · rw [wipe_out hi, setAll_out fun z => hi (h i z)]
section
variable [Tbs] {K : PySem.W.Frag} {σ : L2.St} {G H : Hp} {te ta tb : TE}
theorem e_out {vs js : List Nat} {us : List V} {i : Nat} {v : V} {d : D} (hj : i ∉ js) (hv : i ∉ vs) (h : σ[i]? = some (some v)) (r : Rp K G v d) : EvD K (tVar i) (setAll (wipe σ vs) js us) G d :=
  e_var ((setAll_out hj).trans ((wipe_out hv).trans h)) r
theorem setAll_own : ∀ {σ : L2.St} {js : List Nat} {us : List V} {k j : Nat} {u : V}, js.Nodup → js[k]? = some j → us[k]? = some u → j < σ.length → (setAll σ js us)[j]? = some (some u)
  | _, [], _, _, _, _, _, h, _, _ => by simp at h
  | _, _ :: _, [], _, _, _, _, _, h, _ => by simp at h
  | σ, j0 :: js, u0 :: us, 0, j, u, n, h1, h2, h3 => by
    have e1 := Option.some.inj h1
    have e2 := Option.some.inj h2
    subst e1 e2
    show (setAll (σ.set j0 (some u0)) js us)[j0]? = _
    rw [setAll_out (List.nodup_cons.mp n).1, List.getElem?_set_self h3]
  | σ, j0 :: js, u0 :: us, k + 1, j, u, n, h1, h2, h3 => by
    show (setAll (σ.set j0 (some u0)) js us)[j]? = _
    exact setAll_own (List.nodup_cons.mp n).2 h1 h2 (by rw [List.length_set]; exact h3)
theorem e_own {vs js : List Nat} {us : List V} {k j : Nat} {v : V} {d : D} (n : js.Nodup) (h1 : js[k]? = some j) (h2 : us[k]? = some v) (h3 : Nat.ble (j + 1) σ.length = true) (r : Rp K G v d) : EvD K (tVar j) (setAll (wipe σ vs) js us) G d :=
  e_var (setAll_own n h1 h2 (by rw [wipe_length]; exact Nat.le_of_ble_eq_true h3)) r
/-- ns.index(k), k stands there once -/
theorem e_index {ns : List Nat} {k j : Nat} (ha : EvD K ta σ G (.lst (ns.map fun n : Nat => D.int n))) (hb : EvD K tb σ G (.int k)) (hn : ns.Nodup) (hj : ns[j]? = some k) : EvD K (tBM K "list" (rIndex K) ta (tCons tb tNil)) σ G (.int j) := fun H e Q q =>
  ha H e _ fun v G1 H1 s1 r1 => by
    obtain ⟨a, xs, rfl, hs, hx⟩ := r1.lst_of
    refine ⟨.inl ⟨rfl, xs, .of (s1.i _ _ hs)⟩, (hb.mono s1.g) H1 s1.i _ fun y G2 H2 s2 r2 => ?_⟩
    have ey := r2.int_of
    subst ey
    have ex : xs = ns.map fun n : Nat => V.int n := by
      have h := (hx.flat (by rw [List.all_map]; exact List.all_eq_true.mpr fun _ _ => rfl)).1
      rw [List.map_map] at h
      exact h
    subst ex
    have hx2 := s2.g _ _ hs
    refine ⟨a, _, _, j, .int (k : Nat), rfl, rfl, .of (s2.i _ _ hx2), rfl, by rw [List.all_map]; exact List.all_eq_true.mpr fun _ _ => rfl, by rw [List.getElem?_map, hj]; rfl, ?_, fun m z hm hz => ?_, q _ G2 H2 (s1.trans s2) (.int _)⟩
    · show ((k : Int) == (k : Int)) = true
      simp
    · rw [List.getElem?_map] at hz
      cases q : ns[m]? with
      | none => rw [q] at hz; cases hz
      | some n =>
        rw [q] at hz
        have hz : V.int (n : Nat) = z := Option.some.inj hz
        subst hz
        show ((n : Int) == (k : Int)) = false
        have hne : n ≠ k := fun y => by
          subst y
          have hl := (List.getElem?_eq_some_iff.mp q).1
          have := (List.getElem?_inj hl hn).mp (q.trans hj.symm)
          omega
        exact beq_eq_false_iff_ne.mpr fun y => hne (by omega)
theorem pyA_map {α : Type} {f : α → D} : ∀ xs : List α, D.pyA (xs.map f) = xs.map fun x => (f x).py
  | [] => rfl
  | x :: xs => by
    show (f x).py :: D.pyA (xs.map f) = _
    rw [pyA_map xs]
    rfl
theorem f_sortedD {α : Type} {xs : List α} {f : α → D} (h : EvD K te σ G (.lst (xs.map f))) (hp : ∀ x ∈ xs, (f x).plain = true) (hal : PySem.W.AllAlike (xs.map fun x => (f x).py)) (hk : PySem.W.Sortable (xs.map fun x => (f x).py)) (hl : xs.length ≤ 1000000) (hd : ∀ x ∈ xs, (f x).py.depth ≤ 20) :
    EvF K (tCB (rSortedD K) (tCons te tNil)) σ G ((xs.mergeSort (PySem.W.dataLe false fun x => (f x).py)).map f) := fun H e Q q =>
  a_one h H e _ fun us G1 H1 s r => by
    obtain ⟨v, rfl, rr⟩ := r.one
    obtain ⟨a, vs, rfl, hs, ra⟩ := rr.lst_of
    have hlen : vs.length = xs.length := by rw [ra.len, List.length_map]
    let g : V × α → V × PyData := fun p => (p.1, (f p.2).py)
    have hz : (vs.zip xs).map (·.1) = vs := List.map_fst_zip (by omega)
    have hz2 : (vs.zip xs).map (·.2) = xs := List.map_snd_zip (by omega)
    have rz := ra.zip
    have h1 : ((vs.zip xs).map g).map (·.1) = vs := by rw [List.map_map]; exact hz
    have h2 : ((vs.zip xs).map g).map (·.2) = xs.map fun x => (f x).py := by
      rw [List.map_map]
      have h3 : ((vs.zip xs).map (·.2)).map (fun x => (f x).py) = xs.map fun x => (f x).py := by rw [hz2]
      rw [List.map_map] at h3
      exact h3
    have hpl : D.plainA (xs.map f) = true := by
      clear h hs ra rr hal hk hl hd hlen hz hz2 rz h1 h2 q r
      induction xs with
      | nil => rfl
      | cons x xs ih =>
        show ((f x).plain && D.plainA (xs.map f)) = true
        rw [hp x List.mem_cons_self, ih fun y hy => hp y (List.mem_cons_of_mem _ hy)]
        rfl
    refine ⟨a, (vs.zip xs).map g, rfl, by rw [h1]; exact .of (s.i _ _ hs), ?_, by rw [h2]; exact hal, by rw [h2]; exact hk, by rw [List.length_map, List.length_zip]; omega, fun b hb => ?_, fun l hl2 => ?_⟩
    · rw [h1, h2, ← pyA_map]
      exact (ra.ex s.i).dp hpl
    · obtain ⟨p, hp', rfl⟩ := List.mem_map.mp hb
      exact hd p.2 (by rw [← hz2]; exact List.mem_map.mpr ⟨p, hp', rfl⟩)
    · have hsort : ((vs.zip xs).map g).mergeSort (PySem.W.dataLe false fun b : V × PyData => b.2) = ((vs.zip xs).mergeSort fun p q => PySem.W.dataLe false (fun x : α => (f x).py) p.2 q.2).map g := (List.map_mergeSort (l := vs.zip xs) (r := fun p q : V × α => PySem.W.dataLe false (fun x : α => (f x).py) p.2 q.2) (s := PySem.W.dataLe false fun b : V × PyData => b.2) (f := g) fun p _ q _ => rfl).symm
      have hxs : xs.mergeSort (PySem.W.dataLe false fun x => (f x).py) = ((vs.zip xs).mergeSort fun p q => PySem.W.dataLe false (fun x : α => (f x).py) p.2 q.2).map (·.2) := by
        have h3 := List.map_mergeSort (l := vs.zip xs) (r := fun p q : V × α => PySem.W.dataLe false (fun x : α => (f x).py) p.2 q.2) (s := PySem.W.dataLe false fun x : α => (f x).py) (f := fun p => p.2) fun p _ q _ => rfl
        rw [h3, hz2]
      rw [hsort, List.map_map]
      refine q l _ G1 _ (s.trans (Step.own s.i hl2)) (s.pre hl2) (fresh_back s.i hl2) upd_same ?_
      rw [hxs]
      exact RpA.of_pairs fun p hp' => rz p (List.mem_mergeSort.mp hp')
end
end J

/-! Own objects that change: what a walk has done so far to a set of them. -/
namespace J
open PySem PySem.Spec PyProof.Rows L2 Evl
section
variable [Tbs] {K : PySem.W.Frag} {M M0 M1 M2 G G0 H0 G1 G2 H H1 H2 G' H' : Hp}
theorem Step.hideMore (o : Owns M G H) (sub : ∀ b u, M2 b = some u → M b = some u) (s : Step G (hideM M2 H) G' H') : Step G (hideM M H) G' H' := by
  have e0 : ∀ b u, hideM M H b = some u → hideM M2 H b = some u := fun b u hb => by
    obtain ⟨h1, h2⟩ := hideM_of hb
    rw [hideM_none]
    · exact h2
    · cases q : M2 b with
      | none => rfl
      | some w => rw [sub b w q] at h1; cases h1
  refine ⟨s.g, s.i, (Ex.of e0).trans s.h, fun b u h1 h2 h3 => s.n b u h1 (e0 b u h2) h3, fun b u h1 h2 h3 => ?_⟩
  cases q : hideM M2 H b with
  | none => exact s.c b u q h2 h3
  | some w =>
    obtain ⟨_, hw⟩ := hideM_of q
    have hM : ∃ z, M b = some z := by
      cases y : M b with
      | some z => exact ⟨z, rfl⟩
      | none => rw [hideM_none y, hw] at h1; cases h1
    obtain ⟨z, hz⟩ := hM
    have e1 := o.h b z hz
    rw [hw] at e1
    cases e1
    have nc := (o.t b _ hz).2
    have e2 := s.h.k b _ q (isTbl_code nc)
    rw [h2] at e2
    cases e2
    rw [nc] at h3
    cases h3
/-- since (G, M, H), where the own objects at as may change: as' what may have come -/
structure Chg (G M H : Hp) (as : List Addr) (G' M' H' : Hp) (as' : List Addr) : Prop where
  s : Step G (hideM M H) G' H'
  o : Owns M' G' H'
  o0 : Owns M G H
  d : ∀ b u, M' b = some u → hideM M H b = none
  f : ∀ b u, M b = some u → b ∉ as → M' b = some u
  n : ∀ b ∈ as', b ∈ as ∨ H b = none
variable {as as0 as1 as2 : List Addr} {l p : Addr} {u w : HO}
theorem Chg.refl (e : Ex G H) (o : Owns M G H) : Chg G M H as G M H as := ⟨Step.startM e o, o, o, fun b u h => hideM_some h, fun _ _ h _ => h, fun b h => .inl h⟩
theorem Chg.ii (c : Chg G0 M0 H0 as0 G M H as) : Ex G H := c.s.i
theorem Chg.gg (c : Chg G0 M0 H0 as0 G M H as) : Ex G0 G := c.s.g
/-- what is new now was new then -/
theorem Chg.pre (c : Chg G0 M0 H0 as0 G M H as) (h : H p = none) : p ∈ as0 ∨ H0 p = none := by
  have h1 := fresh_back c.s.h h
  cases q : M0 p with
  | none => rw [hideM_none q] at h1; exact .inr h1
  | some x =>
    by_cases z : p ∈ as0
    · exact .inl z
    · have := c.o.h _ _ (c.f p x q z)
      rw [h] at this
      cases this
theorem Chg.trans (a : Chg G0 M0 H0 as0 G M H as) (b : Chg G M H as G1 M1 H1 as1) : Chg G0 M0 H0 as0 G1 M1 H1 as1 := by
  refine ⟨a.s.transM a.o a.d b.s, b.o, a.o0, fun x u h => ?_, fun x u h hn => ?_, fun x hx => ?_⟩
  · have h1 := b.d x u h
    cases q : M x with
    | some y => exact a.d x y q
    | none =>
      rw [hideM_none q] at h1
      exact fresh_back a.s.h h1
  · have h1 := a.f x u h hn
    refine b.f x u h1 fun z => ?_
    rcases a.n x z with y | y
    · exact hn y
    · rw [a.o0.h x u h] at y
      cases y
  · rcases b.n x hx with y | y
    · exact a.n x y
    · exact a.pre y
theorem Chg.then (a : Chg G0 M0 H0 as0 G M H as) (s : Step G H G1 H1) : Chg G0 M0 H0 as0 G1 M H1 as := ⟨a.s.trans s, a.o.step s, a.o0, a.d, a.f, a.n⟩
theorem Chg.grow (a : Chg G0 M0 H0 as0 G M H as) (h : ∀ b ∈ as, b ∈ as1) (h0 : ∀ b ∈ as1, b ∈ as ∨ b ∈ as0) : Chg G0 M0 H0 as0 G M H as1 := ⟨a.s, a.o, a.o0, a.d, a.f, fun b hb => (h0 b hb).elim (a.n b) .inl⟩
/-- seen with more that may change -/
theorem Chg.wide (a : Chg G0 M0 H0 as0 G M H as) (h : ∀ b ∈ as0, b ∈ as1) : Chg G0 M0 H0 as1 G M H (as ++ as1) := ⟨a.s, a.o, a.o0, a.d, fun b u h1 h2 => a.f b u h1 fun z => h2 (h b z), fun b hb => by
  rcases List.mem_append.mp hb with z | z
  · exact (a.n b z).imp (h b) id
  · exact .inl z⟩
/-- an own object changes -/
theorem Chg.upd (a : Chg G0 M0 H0 as0 G M H as) (hl : l ∈ as) (hm : M l = some u) (hw : isTup w = false ∧ isCode w = false := by exact ⟨rfl, rfl⟩) : Chg G0 M0 H0 as0 G (L2.upd M l w) (L2.upd H l w) as :=
  ⟨a.s.mut (a.d l u hm) (a.o.g l u hm) hw.2, a.o.upd hm hw, a.o0, fun b x hb => by
    by_cases z : b = l
    · subst z; exact a.d b u hm
    · rw [upd_ne z] at hb; exact a.d b x hb, fun b x hb hn => by
    have z : b ≠ l := fun z => by
      subst z
      rcases a.n b hl with y | y
      · exact hn y
      · rw [a.o0.h b x hb] at y
        cases y
    rw [upd_ne z]
    exact a.f b x hb hn, a.n⟩
theorem Owns.put (o : Owns M G H) (hg : G p = none) (hx : H p = some w) (hw : isTup w = false ∧ isCode w = false) : Owns (L2.upd M p w) G H := ⟨fun b x hb => by
    by_cases z : b = p
    · subst z; exact hg
    · rw [upd_ne z] at hb; exact o.g b x hb, fun b x hb => by
    by_cases z : b = p
    · subst z; rw [upd_same] at hb; cases hb; exact hx
    · rw [upd_ne z] at hb; exact o.h b x hb, fun b x hb => by
    by_cases z : b = p
    · subst z; rw [upd_same] at hb; cases hb; exact hw
    · rw [upd_ne z] at hb; exact o.t b x hb⟩
/-- a new object is taken as own -/
theorem Chg.took (a : Chg G0 M0 H0 as0 G M H as) (s : Step G H G1 H1) (hp : H p = none) (hg : G1 p = none) (hx : H1 p = some w) (hw : isTup w = false ∧ isCode w = false := by exact ⟨rfl, rfl⟩) : Chg G0 M0 H0 as0 G1 (L2.upd M p w) H1 (p :: as) := by
  have b := a.then s
  refine ⟨b.s, b.o.put hg hx hw, a.o0, fun x u hb => ?_, fun x u hb hn => ?_, fun x hx' => ?_⟩
  · by_cases z : x = p
    · subst z; exact fresh_back a.s.h hp
    · rw [upd_ne z] at hb; exact a.d x u hb
  · have h1 := a.f x u hb hn
    rw [upd_ne (fun z => by subst z; rw [a.o.h x u h1] at hp; cases hp)]
    exact h1
  · rcases List.mem_cons.mp hx' with z | z
    · subst z; exact a.pre hp
    · exact a.n x z
theorem Chg.new (a : Chg G0 M0 H0 as0 G M H as) (hp : H p = none) (hw : isTup w = false ∧ isCode w = false := by exact ⟨rfl, rfl⟩) : Chg G0 M0 H0 as0 G (L2.upd M p w) (L2.upd H p w) (p :: as) :=
  a.took (Step.own a.ii hp hw.2) hp (fresh_back a.ii hp) upd_same hw
/-- what stands and is no own one stays as it is from now on -/
theorem Chg.freeze (a : Chg G0 M0 H0 as0 G M H as) (hp : hideM M0 H0 p = none) (hg : G p = none) (hx : H p = some w) (hm : M p = none) : Chg G0 M0 H0 as0 (L2.upd G p w) M H as :=
  ⟨a.s.freeze hp hg hx, ⟨fun b u hb => by rw [upd_ne (fun z => by subst z; rw [hm] at hb; cases hb)]; exact a.o.g b u hb, a.o.h, a.o.t⟩, a.o0, a.d, a.f, a.n⟩
theorem Chg.ne (a : Chg G0 M0 H0 as0 G M H as) (hp : H p = none) : M p = none := by
  cases q : M p with
  | none => rfl
  | some x => rw [a.o.h p x q] at hp; cases hp
/-- others keep apart -/
theorem Chg.apart {bs : List Addr} (a : Chg G0 M0 H0 as0 G M H as) (h : ∀ b ∈ bs, b ∉ as0 ∧ H0 b ≠ none) : ∀ b ∈ bs, b ∉ as := fun b hb z => (a.n b z).elim (h b hb).1 (h b hb).2
/-! ### reading -/
variable {σ : L2.St} {te ta tb tc to : TE} {ar : TA} {t : TT} {b : Bool} {ds : List D} {d : D} {Dn : Ends} {tu tw tz : TS} {i j : Nat} {a : Addr} {kvs : List (List Key × V)} {xs : List V} {ks : List Key}
theorem q_asgC' (c : Chg G0 M0 H0 as0 G M H as) (h : EvD K te σ (over G M) d) (hd : d.tupO = true) (k : ∀ v G1 H1, Ex G G1 → Chg G0 M0 H0 as0 G1 M H1 as → Rp K G1 v d → tz Dn (σ.set i (some v)) H1) : tSeq (tAsg te (gName i)) tz Dn σ H :=
  q_asgM c.ii c.o h hd fun v G1 H1 s o r => k v G1 H1 s.g (c.then s) r
theorem q_asgLC (c : Chg G0 M0 H0 as0 G M H as) (h : EvF K te σ (over G M) ds) (hd : D.tupOA ds = true) (k : ∀ v G1 H1, Ex G G1 → Chg G0 M0 H0 as0 G1 M H1 as → Rp K G1 v (.lst ds) → tz Dn (σ.set i (some v)) H1) : tSeq (tAsg te (gName i)) tz Dn σ H :=
  h.own hd c.ii c.o _ fun p xs G1 H1 s o1 h1 h2 h3 r => k _ _ H1 (s.g.trans (Ex.new h2)) ((c.then s).freeze (fresh_back c.s.h h1) h2 h3 (c.ne h1)) (.lst upd_same (r.ex (Ex.new h2)))
theorem q_whenC (c : Chg G0 M0 H0 as0 G M H as) (h : EvB t σ (over G M) b) (h1 : b = true → ∀ G1 H1, Ex G G1 → Chg G0 M0 H0 as0 G1 M H1 as → tu { Dn with nx := tz Dn } σ H1) (h2 : b = false → ∀ G1 H1, Ex G G1 → Chg G0 M0 H0 as0 G1 M H1 as → tz Dn σ H1) : tSeq (tIfS t tu tNext) tz Dn σ H :=
  q_whenM c.ii c.o h (fun z G1 H1 s _ => h1 z G1 H1 s.g (c.then s)) fun z G1 H1 s _ => h2 z G1 H1 s.g (c.then s)
theorem s_ifC (c : Chg G0 M0 H0 as0 G M H as) (h : EvB t σ (over G M) b) (h1 : b = true → ∀ G1 H1, Ex G G1 → Chg G0 M0 H0 as0 G1 M H1 as → tu Dn σ H1) (h2 : b = false → ∀ G1 H1, Ex G G1 → Chg G0 M0 H0 as0 G1 M H1 as → tw Dn σ H1) : tIfS t tu tw Dn σ H :=
  s_ifM c.ii c.o h (fun z G1 H1 s _ => h1 z G1 H1 s.g (c.then s)) fun z G1 H1 s _ => h2 z G1 H1 s.g (c.then s)
theorem s_retC (c : Chg G0 M0 H0 as0 G M H as) (h : EvD K te σ (over G M) d) (hd : d.tupO = true) (k : ∀ v G1 H1, Ex G G1 → Chg G0 M0 H0 as0 G1 M H1 as → Rp K G1 v d → Dn.rt v H1) : tRet te Dn σ H :=
  s_retM c.ii c.o h hd fun v G1 H1 s _ r => k v G1 H1 s.g (c.then s) r
theorem q_dropC (c : Chg G0 M0 H0 as0 G M H as) (h : EvD K te σ (over G M) d) (hd : d.tupO = true) (k : ∀ G1 H1, Ex G G1 → Chg G0 M0 H0 as0 G1 M H1 as → tz Dn σ H1) : tSeq (tDrop te) tz Dn σ H :=
  h.own hd c.ii c.o _ fun v G1 H1 s _ r => k G1 H1 s.g (c.then s)
theorem EvO.own (h : EvO te σ (over G M) a) (c : Chg G0 M0 H0 as0 G M H as) (Q : VK) (k : ∀ G1 H1, Ex G G1 → Chg G0 M0 H0 as0 G1 M H1 as → Q (.ref a) H1) : te σ H Q :=
  h H (c.o.ex c.ii) _ fun G1 H1 s => by
    obtain ⟨G2, s2, _⟩ := s.thawM c.o
    exact k G2 H1 s2.g (c.then s2)
theorem EvD.chg (h : EvD K te σ (over G M) d) (hd : d.tupO = true) (c : Chg G0 M0 H0 as0 G M H as) (Q : VK) (k : ∀ v G1 H1, Ex G G1 → Chg G0 M0 H0 as0 G1 M H1 as → Rp K G1 v d → Q v H1) : te σ H Q :=
  h.own hd c.ii c.o _ fun v G1 H1 s _ r => k v G1 H1 s.g (c.then s) r
theorem EvB.chg (h : EvB t σ (over G M) b) (c : Chg G0 M0 H0 as0 G M H as) (Q : Bool → Hp → Prop) (k : ∀ G1 H1, Ex G G1 → Chg G0 M0 H0 as0 G1 M H1 as → Q b H1) : t σ H Q :=
  h.own c.ii c.o _ fun G1 H1 s _ => k G1 H1 s.g (c.then s)
theorem EvAs.chg (h : EvAs K ar σ (over G M) ds) (hd : D.tupOA ds = true) (c : Chg G0 M0 H0 as0 G M H as) (Q : List V → Hp → Prop) (k : ∀ vs G1 H1, Ex G G1 → Chg G0 M0 H0 as0 G1 M H1 as → RpA K G1 vs ds → Q vs H1) : ar σ H Q :=
  h H (c.o.ex c.ii) _ fun vs G1 H1 s r => by
    obtain ⟨G2, s2, o2, tr, _, gM⟩ := s.thawM c.o
    exact k vs G2 H1 s2.g (c.then s2) (r.off (off_tr c.o tr gM) hd)
/-! ### changing -/
/-- l.append(e) -/
theorem e_appM (c : Chg G0 M0 H0 as0 G M H as) (hl : l ∈ as) (hm : M l = some (.lst xs)) (ho : EvO ta σ (over G M) l) (h : EvD K te σ (over G M) d) (hd : d.tupO = true) (hz : xs.length < 100000) (Q : VK)
    (k : ∀ v G1 H1, Ex G G1 → Chg G0 M0 H0 as0 G1 (upd M l (.lst (xs ++ [v]))) H1 as → Rp K G1 v d → Q .non H1) : tBM K "list" rAppend ta (tCons te tNil) σ H Q :=
  ho H (c.o.ex c.ii) _ fun G1 H1 s1 => ⟨Or.inl ⟨rfl, xs, .of (s1.i _ _ (s1.g _ _ (over_some hm)))⟩, (h.mono s1.g) H1 s1.i _ fun v G2 H2 s2 r => by
    obtain ⟨G3, s3, o3, tr, _, gM⟩ := (s1.trans s2).thawM c.o
    exact ⟨l, xs, v, rfl, rfl, o3.h _ _ hm, sz_lt hz, k v G3 _ s3.g ((c.then s3).upd hl hm) (r.off (off_tr c.o tr gM) hd)⟩⟩
theorem s_appM (c : Chg G0 M0 H0 as0 G M H as) (hl : l ∈ as) (hm : M l = some (.lst xs)) (ho : EvO ta σ (over G M) l) (h : EvD K te σ (over G M) d) (hd : d.tupO = true) (hz : xs.length < 100000)
    (k : ∀ v G1 H1, Ex G G1 → Chg G0 M0 H0 as0 G1 (upd M l (.lst (xs ++ [v]))) H1 as → Rp K G1 v d → Dn.nx σ H1) : tDrop (tBM K "list" rAppend ta (tCons te tNil)) Dn σ H := e_appM c hl hm ho h hd hz _ k
theorem q_appM (c : Chg G0 M0 H0 as0 G M H as) (hl : l ∈ as) (hm : M l = some (.lst xs)) (ho : EvO ta σ (over G M) l) (h : EvD K te σ (over G M) d) (hd : d.tupO = true) (hz : xs.length < 100000)
    (k : ∀ v G1 H1, Ex G G1 → Chg G0 M0 H0 as0 G1 (upd M l (.lst (xs ++ [v]))) H1 as → Rp K G1 v d → tz Dn σ H1) : tSeq (tDrop (tBM K "list" rAppend ta (tCons te tNil))) tz Dn σ H := e_appM c hl hm ho h hd hz _ k
/-- l[j] = e -/
theorem s_setC (c : Chg G0 M0 H0 as0 G M H as) (hl : l ∈ as) (hm : M l = some (.lst xs)) (h : EvD K te σ (over G M) d) (hd : d.tupO = true) (ho : EvO ta σ (over G M) l) (hi : EvD K tb σ (over G M) (.int j)) (hj : j < xs.length)
    (k : ∀ v G1 H1, Ex G G1 → Chg G0 M0 H0 as0 G1 (upd M l (.lst (xs.set j v))) H1 as → Rp K G1 v d → Dn.nx σ H1) : tAsg te (gSub ta tb rSetL) Dn σ H :=
  h H (c.o.ex c.ii) _ fun v G1 H1 s1 r1 => (ho.mono s1.g) H1 s1.i _ fun G2 H2 s2 => (hi.mono (s1.g.trans s2.g)) H2 s2.i _ fun w G3 H3 s3 r3 => by
    obtain ⟨G4, s4, o4, tr, _, gM⟩ := ((s1.trans s2).trans s3).thawM c.o
    exact ⟨l, xs, (j : Int), j, rfl, r3.int_of, o4.h _ _ hm, Evl.ixN_nat hj, k v G4 _ s4.g ((c.then s4).upd hl hm) ((r1.ex (s2.g.trans s3.g)).off (off_tr c.o tr gM) hd)⟩
theorem q_setC (c : Chg G0 M0 H0 as0 G M H as) (hl : l ∈ as) (hm : M l = some (.lst xs)) (h : EvD K te σ (over G M) d) (hd : d.tupO = true) (ho : EvO ta σ (over G M) l) (hi : EvD K tb σ (over G M) (.int j)) (hj : j < xs.length)
    (k : ∀ v G1 H1, Ex G G1 → Chg G0 M0 H0 as0 G1 (upd M l (.lst (xs.set j v))) H1 as → Rp K G1 v d → tz Dn σ H1) : tSeq (tAsg te (gSub ta tb rSetL)) tz Dn σ H := s_setC (Dn := { Dn with nx := tz Dn }) c hl hm h hd ho hi hj k
/-- l[key] = e, a key that is a tuple -/
theorem s_dputC {d2 : D} (c : Chg G0 M0 H0 as0 G M H as) (hl : l ∈ as) (hm : M l = some (.dT kvs)) (h : EvD K te σ (over G M) d) (hf : d.flat = true) (ho : EvO ta σ (over G M) l) (hk : EvD K tb σ (over G M) d2) (hkd : d2 = .tup (ks.map kD)) (hz : kvs.length < 1000000)
    (k : ∀ G1 H1, Ex G G1 → Chg G0 M0 H0 as0 G1 (upd M l (.dT (putK kvs ks d.toV))) H1 as → Dn.nx σ H1) : sDPut ta tb te Dn σ H :=
  h H (c.o.ex c.ii) _ fun v G1 H1 s1 r1 => (ho.mono s1.g) H1 s1.i _ fun G2 H2 s2 => (hk.mono (s1.g.trans s2.g)) H2 s2.i _ fun y G3 H3 s3 r3 => by
    subst hkd
    obtain ⟨b, ys, rfl, hb, hys⟩ := r3.tup_of
    have z := hys.keys
    subst z
    obtain ⟨G4, s4, o4, tr, _, gM⟩ := ((s1.trans s2).trans s3).thawM c.o
    rw [(r1.flat hf).1]
    exact ⟨l, _, rfl, DPut.t (o4.h _ _ hm) (s3.i _ _ hb) (by rw [sizeLine_eq]; omega), k G4 _ s4.g ((c.then s4).upd hl hm)⟩
theorem q_dputC {d2 : D} (c : Chg G0 M0 H0 as0 G M H as) (hl : l ∈ as) (hm : M l = some (.dT kvs)) (h : EvD K te σ (over G M) d) (hf : d.flat = true) (ho : EvO ta σ (over G M) l) (hk : EvD K tb σ (over G M) d2) (hkd : d2 = .tup (ks.map kD)) (hz : kvs.length < 1000000)
    (k : ∀ G1 H1, Ex G G1 → Chg G0 M0 H0 as0 G1 (upd M l (.dT (putK kvs ks d.toV))) H1 as → tz Dn σ H1) : tSeq (sDPut ta tb te) tz Dn σ H := s_dputC (Dn := { Dn with nx := tz Dn }) c hl hm h hf ho hk hkd hz k
/-- o.f = a new list -/
theorem s_fldC {C dx o : Addr} {fs : List (Str × V)} {f : Str} (c : Chg G0 M0 H0 as0 G M H as) (hl : o ∈ as) (hm : M o = some (.ins C dx fs)) (h : EvF K te σ (over G M) ds) (hd : D.tupOA ds = true) (ho : EvO to σ (over G M) o) (cl : Cls K C) (n : NoAttr K C f) (hz : fs.length < 1000)
    (k : ∀ p xs G1 H1, Ex G G1 → M p = none → H p = none → p ≠ o → Chg G0 M0 H0 as0 G1 (upd (upd M p (.lst xs)) o (.ins C dx (putF f (.ref p) fs))) H1 (p :: as) → RpA K G1 xs ds → Dn.nx σ H1) : sFld K to te f Dn σ H :=
  h.own hd c.ii c.o _ fun p xs G1 H1 s1 o1 h1 h2 h3 r => by
    have c1 := (c.then s1)
    have c2 := c.took s1 h1 h2 h3
    have np : p ≠ o := fun z => by rw [z, c.o.h o _ hm] at h1; cases h1
    have hm2 : upd M p (.lst xs) o = some (.ins C dx fs) := by rw [upd_ne (Ne.symm np)]; exact hm
    have e12 : Ex (over G M) (over G1 (upd M p (.lst xs))) := by
      refine ⟨fun b u hb t => ?_, fun b ps hb => ?_⟩
      · cases q : M b with
        | some w =>
          rw [over_some q] at hb
          cases hb
          rw [over_some (by rw [upd_ne (fun z => by rw [z, c.ne h1] at q; cases q)]; exact q)]
        | none =>
          rw [over_none q] at hb
          have hb1 := s1.g.k b u hb t
          by_cases z : b = p
          · subst z; rw [h2] at hb1; cases hb1
          · rw [over_none (by rw [upd_ne z]; exact q)]; exact hb1
      · cases q : M b with
        | some w =>
          rw [over_some q] at hb
          cases hb
          have := (c.o.t b _ q).2
          cases this
        | none =>
          rw [over_none q] at hb
          obtain ⟨ps', k1, gr⟩ := s1.g.t b ps hb
          by_cases z : b = p
          · subst z; rw [h2] at k1; cases k1
          · refine ⟨ps', by rw [over_none (by rw [upd_ne z]; exact q)]; exact k1, fun ht => ?_⟩
            obtain ⟨k2, k3⟩ := gr ht
            refine ⟨k2, fun pos cv hcv => (k3 pos cv hcv).elim .inl fun ⟨x, e1, e2⟩ => .inr ⟨x, e1, ?_⟩⟩
            rw [over_none]
            · exact e2
            · cases y : upd M p (.lst xs) x with
              | none => rfl
              | some w =>
                have := c2.o.g x w y
                rw [this] at e2
                cases e2
    refine (ho.mono e12).own c2 _ fun G2 H2 e2 c3 => ?_
    exact ⟨o, C, dx, fs, rfl, c3.o.h _ _ hm2, cl, n, hz, k p xs G2 _ (s1.g.trans e2) (c.ne h1) h1 np (c3.upd (List.mem_cons_of_mem _ hl) hm2) (r.ex e2)⟩
theorem q_fldC {C dx o : Addr} {fs : List (Str × V)} {f : Str} (c : Chg G0 M0 H0 as0 G M H as) (hl : o ∈ as) (hm : M o = some (.ins C dx fs)) (h : EvF K te σ (over G M) ds) (hd : D.tupOA ds = true) (ho : EvO to σ (over G M) o) (cl : Cls K C) (n : NoAttr K C f) (hz : fs.length < 1000)
    (k : ∀ p xs G1 H1, Ex G G1 → M p = none → H p = none → p ≠ o → Chg G0 M0 H0 as0 G1 (upd (upd M p (.lst xs)) o (.ins C dx (putF f (.ref p) fs))) H1 (p :: as) → RpA K G1 xs ds → tz Dn σ H1) : tSeq (sFld K to te f) tz Dn σ H := s_fldC (Dn := { Dn with nx := tz Dn }) c hl hm h hd ho cl n hz k
/-! ### draws, the dice among the own objects -/
def DiceM (M : Hp) (p : Addr) : Prop := ∃ ms : List Int, M p = some (.lst (ms.map V.int)) ∧ DOk ms
def delM (M : Hp) (p : Addr) : Hp := fun b => if b = p then none else M b
theorem delM_of {b : Addr} (h : delM M p b = some u) : b ≠ p ∧ M b = some u := by
  unfold delM at h
  split at h
  · cases h
  · rename_i z
    exact ⟨z, h⟩
theorem delM_ne {b : Addr} (h : b ≠ p) : delM M p b = M b := if_neg h
theorem delM_same : delM M p p = none := if_pos rfl
theorem hide_own1 {o : HO} : hideM (own1 p o) H = hide p H := by
  funext b
  by_cases z : b = p
  · subst z; rw [hideM_some own1_same, hide_p]
  · rw [hideM_none (own1_ne z), hide_ne z]
theorem delM_owns (o : Owns M G H) : Owns (delM M p) G (hide p H) := ⟨fun b u hb => o.g b u (delM_of hb).2, fun b u hb => by
  obtain ⟨z, h⟩ := delM_of hb
  rw [hide_ne z]
  exact o.h b u h, fun b u hb => o.t b u (delM_of hb).2⟩
theorem delM_owns' (o : Owns M G H) : Owns (delM M p) G H := ⟨fun b u hb => o.g b u (delM_of hb).2, fun b u hb => o.h b u (delM_of hb).2, fun b u hb => o.t b u (delM_of hb).2⟩
/-- beside the dice -/
theorem Chg.dice (c : Chg G0 M0 H0 as0 G M H as) (hp : p ∈ as) (hm : DiceM M p) (s : Step G (hide p H) G1 H1) (o1 : Owns (delM M p) G1 H1) (g1 : G1 p = none) (d1 : Dice p H1) : ∃ M1, Chg G0 M0 H0 as0 G1 M1 H1 as ∧ DiceM M1 p ∧ ∀ b, b ≠ p → M1 b = M b := by
  obtain ⟨ms, hms, ok⟩ := hm
  obtain ⟨ms1, hx, ok1⟩ := d1
  have s2 : Step G (hideM M H) G1 H1 := by
    rw [← hide_own1 (o := .lst (ms.map V.int))] at s
    exact s.hideMore c.o fun b u hb => by
      obtain ⟨z, w⟩ := own1_of hb
      rw [z, w]
      exact hms
  have o2 : Owns (L2.upd M p (.lst (ms1.map V.int))) G1 H1 := ⟨fun b u hb => by
    by_cases z : b = p
    · subst z; exact g1
    · rw [upd_ne z] at hb; exact o1.g b u (by rw [delM_ne z]; exact hb), fun b u hb => by
    by_cases z : b = p
    · subst z; rw [upd_same] at hb; cases hb; exact hx
    · rw [upd_ne z] at hb; exact o1.h b u (by rw [delM_ne z]; exact hb), fun b u hb => by
    by_cases z : b = p
    · subst z; rw [upd_same] at hb; cases hb; exact ⟨rfl, rfl⟩
    · rw [upd_ne z] at hb; exact o1.t b u (by rw [delM_ne z]; exact hb)⟩
  refine ⟨L2.upd M p (.lst (ms1.map V.int)), ⟨c.s.transM c.o c.d s2, o2, c.o0, fun b u hb => ?_, fun b u hb hn => ?_, c.n⟩, ⟨ms1, upd_same, ok1⟩, fun b z => upd_ne z⟩
  · by_cases z : b = p
    · subst z; exact c.d b _ hms
    · rw [upd_ne z] at hb; exact c.d b u hb
  · have h1 := c.f b u hb hn
    have z : b ≠ p := fun z => by
      subst z
      rcases c.n b hp with y | y
      · exact hn y
      · rw [c.o0.h b u hb] at y; cases y
    rw [upd_ne z]
    exact h1
variable {R : D → Prop} {Rs : List D → Prop}
theorem EvR.chg (c : Chg G0 M0 H0 as0 G M H as) (hp : p ∈ as) (hm : DiceM M p) (h : EvR K p te σ (over G (delM M p)) R) (hf : ∀ d, R d → d.tupO = true) (Q : VK)
    (k : ∀ v d G1 H1 M1, Ex G G1 → Chg G0 M0 H0 as0 G1 M1 H1 as → DiceM M1 p → (∀ b, b ≠ p → M1 b = M b) → R d → Rp K G1 v d → Q v H1) : te σ H Q := by
  have hm0 := hm
  obtain ⟨ms, hms, ok⟩ := hm0
  have gp := c.o.g p _ hms
  have o' := delM_owns (p := p) c.o
  refine h H ((delM_owns' c.o).ex c.ii) (by rw [over_none delM_same]; exact gp) ⟨ms, c.o.h _ _ hms, ok⟩ Q fun v d G1 H1 s g1 d1 r rp => ?_
  obtain ⟨G2, s2, o2, tr, fr, gM⟩ := s.thawM o'
  obtain ⟨M1, c1, dm, hM⟩ := c.dice hp hm s2 o2 (fr p g1) d1
  exact k v d G2 H1 M1 s2.g c1 dm hM r (rp.off (off_tr o' tr gM) (hf d r))
theorem EvRF.chg (c : Chg G0 M0 H0 as0 G M H as) (hp : p ∈ as) (hm : DiceM M p) (h : EvRF K p te σ (over G (delM M p)) Rs) (hf : ∀ ds, Rs ds → D.tupOA ds = true) (Q : VK)
    (k : ∀ v ds G1 H1 M1, Ex G G1 → Chg G0 M0 H0 as0 G1 M1 H1 as → DiceM M1 p → (∀ b, b ≠ p → M1 b = M b) → Rs ds → Rp K G1 v (.lst ds) → Q v H1) : te σ H Q := by
  have hm0 := hm
  obtain ⟨ms, hms, ok⟩ := hm0
  have gp := c.o.g p _ hms
  have o' := delM_owns (p := p) c.o
  refine h H ((delM_owns' c.o).ex c.ii) (by rw [over_none delM_same]; exact gp) ⟨ms, c.o.h _ _ hms, ok⟩ Q fun q xs ds G1 H1 s q1 q2 q3 r rp => ?_
  have ss := s.s
  obtain ⟨G2, s2, o2, tr, fr, gM⟩ := ss.thawM o'
  obtain ⟨M1, c1, dm, hM⟩ := c.dice hp hm s2 o2 (fr p s.g) s.d
  have nq : q ≠ p := fun z => by rw [z, c.o.h _ _ hms] at q1; cases q1
  have hMq : M1 q = none := by rw [hM q nq]; exact c.ne q1
  have c2 := c1.freeze (fresh_back c.s.h q1) (fr q q2) q3 hMq
  exact k _ ds _ H1 M1 (s2.g.trans (Ex.new (fr q q2))) c2 dm hM r (.lst upd_same ((rp.off (off_tr o' tr gM) (hf ds r)).ex (Ex.new (fr q q2))))
end
end J

/-! Dicts of mixed values by texts; pop with a default; loops over own lists; methods of own instances. -/
namespace J
open PySem PySem.Spec PyProof.Rows L2 Evl
open L2.DX (rPopT mt_popT)
/-- d.update(o), keys whole numbers or texts -/
def tDUpdK (td ty : TE) : TE := fun σ H Q => td σ H fun x H1 => ∃ a, x = .ref a ∧ IsD H1 a ∧ ty σ H1 fun y H2 => ∃ (b : Addr) (kvs more : List (Key × V)), y = .ref b ∧ H2 a = some (.dK kvs) ∧ H2 b = some (.dK more) ∧ a ≠ b ∧ kvs.length + more.length ≤ 1000000 ∧ Q .non (upd H2 a (.dK (mergeK kvs more)))
theorem pe_dupdK {X : Cx} {o e : Expr} {td ty : TE} {apos cpos : Pos} (ho : PE X o td) (he : PE X e ty) (m : M1 X o "update" apos e cpos) : PE X (.Call (.Attribute o "update" apos) [e] [] cpos) (tDUpdK td ty) := by
  refine ⟨fun pins s σ H Q I h => ?_⟩
  refine wpAny_Call_method m.base m.few m.line PySem.F.plainAttrs_dict PySem.F.slot_dict_update PySem.F.type_dict_update (thn (ho.run pins s σ H _ I h) fun u s1 ⟨x, H1, I1, rx, a, ex, d, q1⟩ => ?_)
  subst ex
  obtain rfl : u = Value.ref a := rx
  obtain ⟨t1, t2, _⟩ := isD_at I1 d
  refine ⟨t1, t2, ?_⟩
  rw [m.trees]
  refine Calls.callWith_builtin rfl (Calls.evalArgs_plain (Calls.spliced_cons (thn (he.run pins s1 σ H1 _ I1 q1) fun iv s2 ⟨y, H2, I2, ry, b, kvs, more, ey, ea, eb, nab, hz, q2⟩ => Calls.spliced_nil ?_)))
  subst ey
  cases (show iv = Value.ref b from ry)
  obtain ⟨z0, hd, vs, rel, dd⟩ := dk_of I2.hok ea
  obtain ⟨z1, ho', ws, rel2, dd2⟩ := dk_of I2.hok eb
  have l1 : vs.length = kvs.length := (Paired.length rel).symm
  have l2 : ws.length = more.length := (Paired.length rel2).symm
  have hz2 : (mergeK kvs more).length ≤ sizeLine := by
    have h1 := length_mergeK more kvs
    rw [sizeLine_eq]
    omega
  refine call_meetsIn PySem.F.slot_dict_update dd.typeIs PySem.F.entry_dict_update (PySem.F.args_dict_update_2 _ _) (meets_dict_update (mixKind X.prog X.w) a b nab ho')
    ⟨vs, ws, dd, dd2, by rw [l1, l2, sizeLine_eq]; omega, fun h' dd' _ sb => ?_⟩
  have hq : ∃ q, h'.get? a = some q := let ⟨q, _, _, hq, _⟩ := dd'; ⟨q, hq⟩
  exact ⟨.non, _, d_write (t' := s2.toks) (ob := .dK (mergeK kvs more)) I2 (by rw [ea]; exact True.intro) sb hq (dk_new hz2 hd (rel2.merge rel) dd'), rfl, q2⟩
theorem mt_popTK {X : Cx} (hu : X.A.units + 1 < cLine) : MtR X "dict.pop" rPopT := mt_popT hu
section
variable [Tbs] {K : PySem.W.Frag} {M M0 G G0 H0 G1 H H1 : Hp} {as as0 : List Addr} {l p : Addr} {σ : L2.St} {te ta tb tk to : TE} {ar : TA} {t : TT} {b : Bool} {ds es : List D} {d d1 : D} {Dn : Ends} {tu tw tz : TS} {g : TG} {i j n : Nat} {a o w : Addr} {kvs : List (List Key × V)} {mx : List (Key × V)} {xs : List V} {ks : List Key} {C dx : Addr} {fs : List (Str × V)} {m : Str} {sp : Sp} {E0' : XK}
/-! ### an entry by a text -/
theorem o_dgetS {key : Str} (h : EvO te σ G a) (hx : G a = some (.dK mx)) (hk : EvD K tk σ G (.str key)) (hv : valV mx (.inr key) = some (.ref w)) : EvO (tDGet te tk) σ G w := fun H e Q q =>
  h H e _ fun G1 H1 s1 => (hk.mono s1.g) H1 s1.i _ fun y G2 H2 s2 r => by
    have e1 := r.str_of
    subst e1
    exact ⟨a, .ref w, rfl, .inl ⟨mx, .inr key, .inl (s2.i _ _ ((s1.g.trans s2.g) _ _ hx)), rfl, hv.symm⟩, q G2 H2 (s1.trans s2)⟩
theorem e_dgetS {key : Str} {v : V} (h : EvO te σ G a) (hx : G a = some (.dK mx)) (hk : EvD K tk σ G (.str key)) (hv : valV mx (.inr key) = some v) (r : Rp K G v d) : EvD K (tDGet te tk) σ G d := fun H e Q q =>
  h H e _ fun G1 H1 s1 => (hk.mono s1.g) H1 s1.i _ fun y G2 H2 s2 r2 => by
    have e1 := r2.str_of
    subst e1
    exact ⟨a, v, rfl, .inl ⟨mx, .inr key, .inl (s2.i _ _ ((s1.g.trans s2.g) _ _ hx)), rfl, hv.symm⟩, q v G2 H2 (s1.trans s2) (r.ex (s1.g.trans s2.g))⟩
/-- what an object that is data tells -/
theorem EvO.dat (h : EvO te σ G a) (r : Rp K G (.ref a) d) : EvD K te σ G d := fun H e Q q => h H e _ fun G1 H1 s => q _ G1 H1 s (r.ex s.g)
/-- a[key] = a new list, a an own dict of mixed values -/
theorem s_dputL {key : Str} (c : Chg G0 M0 H0 as0 G M H as) (hl : a ∈ as) (hm : M a = some (.dK mx)) (h : EvF K te σ (over G M) ds) (hd : D.tupOA ds = true) (hj : σ[j]? = some (some (.ref a))) (hz : mx.length < 1000000)
    (k : ∀ p xs G1 H1, Ex G G1 → M p = none → H p = none → p ≠ a → Chg G0 M0 H0 as0 G1 (upd (upd M p (.lst xs)) a (.dK (putK mx (.inr key) (.ref p)))) H1 (p :: as) → RpA K G1 xs ds → Dn.nx σ H1) : sDPut (tVar j) (tC (.str key)) te Dn σ H :=
  h.own hd c.ii c.o _ fun p xs G1 H1 s1 o1 h1 h2 h3 r => by
    have np : p ≠ a := fun z => by rw [z, c.o.h a _ hm] at h1; cases h1
    have c2 := c.took s1 h1 h2 h3
    have hm2 : upd M p (.lst xs) a = some (.dK mx) := by rw [upd_ne (Ne.symm np)]; exact hm
    exact ⟨_, hj, a, _, rfl, DPut.k (k := .inr key) (c2.o.h _ _ hm2) (by rw [sizeLine_eq]; omega), k p xs G1 _ s1.g (c.ne h1) h1 np (c2.upd (List.mem_cons_of_mem _ hl) hm2) r⟩
theorem q_dputL {key : Str} (c : Chg G0 M0 H0 as0 G M H as) (hl : a ∈ as) (hm : M a = some (.dK mx)) (h : EvF K te σ (over G M) ds) (hd : D.tupOA ds = true) (hj : σ[j]? = some (some (.ref a))) (hz : mx.length < 1000000)
    (k : ∀ p xs G1 H1, Ex G G1 → M p = none → H p = none → p ≠ a → Chg G0 M0 H0 as0 G1 (upd (upd M p (.lst xs)) a (.dK (putK mx (.inr key) (.ref p)))) H1 (p :: as) → RpA K G1 xs ds → tz Dn σ H1) : tSeq (sDPut (tVar j) (tC (.str key)) te) tz Dn σ H := s_dputL (Dn := { Dn with nx := tz Dn }) c hl hm h hd hj hz k
/-! ### d.pop(key, None) -/
theorem dropK_none {α : Type} [DecidableEq α] {kvs : List (α × V)} {k : α} (h : valV kvs k = none) : dropK kvs k = kvs := by
  induction kvs with
  | nil => rfl
  | cons x kvs ih =>
    unfold dropK at ih ⊢
    by_cases e : x.1 = k
    · rw [valV_pos e] at h
      cases h
    · rw [valV_neg e] at h
      rw [List.filter_cons_of_pos (by rw [decide_eq_true_eq]; exact e), ih h]
theorem s_popC {d2 : D} (c : Chg G0 M0 H0 as0 G M H as) (hl : l ∈ as) (hm : M l = some (.dT kvs)) (ho : EvO ta σ (over G M) l) (hk : EvD K tb σ (over G M) d2) (hkd : d2 = .tup (ks.map kD))
    (k : ∀ G1 H1, Ex G G1 → Chg G0 M0 H0 as0 G1 (upd M l (.dT (dropK kvs ks))) H1 as → Dn.nx σ H1) : tDrop (tBM K "dict" rPopT ta (tCons tb (tCons (tC .non) tNil))) Dn σ H :=
  ho H (c.o.ex c.ii) _ fun G1 H1 s1 => ⟨Or.inr (Or.inr (Or.inl ⟨rfl, .inr ⟨kvs, s1.i _ _ (s1.g _ _ (over_some hm))⟩⟩)), (hk.mono s1.g) H1 s1.i _ fun y G3 H3 s3 r3 => by
    subst hkd
    obtain ⟨b, ys, rfl, hb, hys⟩ := r3.tup_of
    have z := hys.keys
    subst z
    obtain ⟨G4, s4, o4, _⟩ := (s1.trans s3).thawM c.o
    have hx := o4.h _ _ hm
    refine ⟨l, kvs, ks, b, .non, rfl, rfl, hx, s3.i _ _ hb, fun v hv => ?_, fun hv => ?_⟩
    · exact k G4 _ s4.g ((c.then s4).upd hl hm)
    · have c1 := (c.then s4).upd (w := .dT (dropK kvs ks)) hl hm
      have e : upd H3 l (.dT (dropK kvs ks)) = H3 := by
        rw [dropK_none hv]
        funext x
        by_cases zz : x = l
        · subst zz; rw [upd_same, hx]
        · rw [upd_ne zz]
      rw [e] at c1
      exact k G4 H3 s4.g c1⟩
theorem q_popC {d2 : D} (c : Chg G0 M0 H0 as0 G M H as) (hl : l ∈ as) (hm : M l = some (.dT kvs)) (ho : EvO ta σ (over G M) l) (hk : EvD K tb σ (over G M) d2) (hkd : d2 = .tup (ks.map kD))
    (k : ∀ G1 H1, Ex G G1 → Chg G0 M0 H0 as0 G1 (upd M l (.dT (dropK kvs ks))) H1 as → tz Dn σ H1) : tSeq (tDrop (tBM K "dict" rPopT ta (tCons tb (tCons (tC .non) tNil)))) tz Dn σ H := s_popC (Dn := { Dn with nx := tz Dn }) c hl hm ho hk hkd k
/-! ### loops -/
/-- for .. in enumerate(l), l an own list that stays as it is meanwhile -/
theorem s_forEM {Ed : Nat → List D} {js : List Nat} (c : Chg G0 M0 H0 as0 G M H as) (ho : EvO te σ (over G M) l) (hm : M l = some (.lst xs)) (rx : RpA K G xs ds) (hg : ∀ i, i < ds.length → EvG K g (.tup [.int i, nth ds i]) js (Ed i))
    (Pv : Nat → L2.St → Hp → Hp → Hp → List Addr → Prop)
    (h0 : ∀ G1 H1, Ex G G1 → Chg G0 M0 H0 as0 G1 M H1 as → Pv 0 σ G1 M H1 as)
    (hs : ∀ i, i < ds.length → ∀ σ' G' M' H' as', Ex G G' → Chg G0 M0 H0 as0 G' M' H' as' → M' l = some (.lst xs) → (∀ G1 H1, Step G' H' G1 H1 → Pv i σ' G1 M' H1 as') → ∀ G2 H2 us, Step G' H' G2 H2 → RpA K G2 us (Ed i) →
      tu { Dn with nx := fun σ2 H3 => ∃ G3 M3 as3, Ex G G3 ∧ Chg G0 M0 H0 as0 G3 M3 H3 as3 ∧ M3 l = some (.lst xs) ∧ ∀ G4 H4, Step G3 H3 G4 H4 → Pv (i + 1) σ2 G4 M3 H4 as3, ct := fun σ2 H3 => ∃ G3 M3 as3, Ex G G3 ∧ Chg G0 M0 H0 as0 G3 M3 H3 as3 ∧ M3 l = some (.lst xs) ∧ ∀ G4 H4, Step G3 H3 G4 H4 → Pv (i + 1) σ2 G4 M3 H4 as3, bk := Dn.nx } (setAll σ' js us) H2)
    (hd : ∀ σ' G' M' H' as', Ex G G' → Chg G0 M0 H0 as0 G' M' H' as' → M' l = some (.lst xs) → Pv ds.length σ' G' M' H' as' → Dn.nx σ' H') : tFor (iEn K (tCons te tNil)) g tu Dn σ H :=
  .inl (ho.own c _ fun G1 H1 e1 c1 => by
    refine ⟨l, xs, rfl, .of (c1.o.h _ _ hm), ?_⟩
    refine ⟨fun i m σ' H' => m = ds.length - i ∧ i ≤ ds.length ∧ ∃ G' M' as', Ex G G' ∧ Chg G0 M0 H0 as0 G' M' H' as' ∧ M' l = some (.lst xs) ∧ ∀ G1 H1, Step G' H' G1 H1 → Pv i σ' G1 M' H1 as', ⟨ds.length, by omega, Nat.zero_le _, G1, M, as, e1, c1, hm, fun G2 H2 s2 => h0 G2 H2 (e1.trans s2.g) (c1.then s2)⟩, ?_⟩
    rintro i m σ' H' ⟨rfl, hi', G', M', as', e', c', hm', pv⟩
    have hx' := c'.o.h _ _ hm'
    by_cases hlt : i < ds.length
    · refine .inr ⟨⟨xs, xs[i]'(by rw [rx.len]; exact hlt), .of hx', by simp [rx.len, hlt]⟩, _, fun σ2 H3 q => ⟨ds.length - (i + 1), by omega, rfl, hlt, q⟩, fun x H2 y => ?_⟩
      obtain ⟨T, x, rfl, hT, rfl, y⟩ := y
      have hxi := y xs (.of hx')
      obtain ⟨d, hd, rd⟩ := rx.get hxi
      have s2 := Step.new (o := .tup [.int (i : Nat), x]) c'.ii hT
      refine hg i hlt _ _ _ _ _ s2.i (.tup upd_same (.cons (.int _) (.cons (by rw [nth_of hd]; exact rd.ex (e'.trans s2.g)) .nil))) fun us ru => hs i hlt σ' G' M' H' as' e' c' hm' pv _ _ us s2 ru
    · have z : i = ds.length := by omega
      subst z
      exact .inl ⟨⟨xs, .of hx', by rw [rx.len]; exact Nat.le_refl _⟩, hd σ' G' M' H' as' e' c' hm' (pv G' H' (Step.refl c'.ii))⟩)
theorem q_forEM {Ed : Nat → List D} {js : List Nat} (c : Chg G0 M0 H0 as0 G M H as) (ho : EvO te σ (over G M) l) (hm : M l = some (.lst xs)) (rx : RpA K G xs ds) (hg : ∀ i, i < ds.length → EvG K g (.tup [.int i, nth ds i]) js (Ed i))
    (Pv : Nat → L2.St → Hp → Hp → Hp → List Addr → Prop)
    (h0 : ∀ G1 H1, Ex G G1 → Chg G0 M0 H0 as0 G1 M H1 as → Pv 0 σ G1 M H1 as)
    (hs : ∀ i, i < ds.length → ∀ σ' G' M' H' as', Ex G G' → Chg G0 M0 H0 as0 G' M' H' as' → M' l = some (.lst xs) → (∀ G1 H1, Step G' H' G1 H1 → Pv i σ' G1 M' H1 as') → ∀ G2 H2 us, Step G' H' G2 H2 → RpA K G2 us (Ed i) →
      tu { Dn with nx := fun σ2 H3 => ∃ G3 M3 as3, Ex G G3 ∧ Chg G0 M0 H0 as0 G3 M3 H3 as3 ∧ M3 l = some (.lst xs) ∧ ∀ G4 H4, Step G3 H3 G4 H4 → Pv (i + 1) σ2 G4 M3 H4 as3, ct := fun σ2 H3 => ∃ G3 M3 as3, Ex G G3 ∧ Chg G0 M0 H0 as0 G3 M3 H3 as3 ∧ M3 l = some (.lst xs) ∧ ∀ G4 H4, Step G3 H3 G4 H4 → Pv (i + 1) σ2 G4 M3 H4 as3, bk := tz Dn } (setAll σ' js us) H2)
    (hd : ∀ σ' G' M' H' as', Ex G G' → Chg G0 M0 H0 as0 G' M' H' as' → M' l = some (.lst xs) → Pv ds.length σ' G' M' H' as' → tz Dn σ' H') : tSeq (tFor (iEn K (tCons te tNil)) g tu) tz Dn σ H := s_forEM (Dn := { Dn with nx := tz Dn }) c ho hm rx hg Pv h0 hs hd
/-- a range whose end is read from own objects -/
theorem s_rngM (c : Chg G0 M0 H0 as0 G M H as) (h : EvD K te σ (over G M) (.int n)) (k : ∀ G1 H1, Ex G G1 → Chg G0 M0 H0 as0 G1 M H1 as → tFor (iRng1 (tCons (tC (.int (n : Nat))) tNil)) g tu Dn σ H1) : tFor (iRng1 (tCons te tNil)) g tu Dn σ H :=
  h.chg rfl c _ fun v G1 H1 e1 c1 rp => by
    have z := rp.int_of
    subst z
    exact k G1 H1 e1 c1
theorem q_rngM (c : Chg G0 M0 H0 as0 G M H as) (h : EvD K te σ (over G M) (.int n)) (k : ∀ G1 H1, Ex G G1 → Chg G0 M0 H0 as0 G1 M H1 as → tSeq (tFor (iRng1 (tCons (tC (.int (n : Nat))) tNil)) g tu) tz Dn σ H1) : tSeq (tFor (iRng1 (tCons te tNil)) g tu) tz Dn σ H := s_rngM (Dn := { Dn with nx := tz Dn }) c h k
/-! ### methods of own instances -/
theorem m_callM (c : Chg G0 M0 H0 as0 G M H as) (ho : EvO to σ (over G M) o) (hi : M o = some (.ins C dx fs)) (hl : fs.lookup m = none) (ha : EvAs K ar σ (over G M) ds) (hd : D.tupOA ds = true) (Q : VK)
    (k : ∀ vs G1 H1, Ex G G1 → Chg G0 M0 H0 as0 G1 M H1 as → RpA K G1 vs ds → sp (.ref o :: (vs ++ [])) H1 Q E0') : tMeth C m sp [] E0' to ar σ H Q :=
  ho H (c.o.ex c.ii) _ fun G1 H1 s1 => ⟨o, dx, fs, rfl, s1.i.k _ _ (s1.g.k _ _ (over_some hi) rfl) rfl, hl, (ha.mono s1.g) H1 s1.i _ fun vs G2 H2 s2 r => by
    obtain ⟨G3, s3, o3, tr, _, gM⟩ := (s1.trans s2).thawM c.o
    exact k vs G3 H2 s3.g (c.then s3) (r.off (off_tr c.o tr gM) hd)⟩
/-- a method that only reads -/
theorem f_methR (h : EvO to σ G o) (hi : G o = some (.ins C dx fs)) (hl : fs.lookup m = none) (ha : EvAs K ar σ G ds) (hs : ∀ vs G1 H1 Q, Ex G G1 → Ex G1 H1 → RpA K G1 vs ds → (∀ p xs G2 H2, Step G1 H1 G2 H2 → H1 p = none → G2 p = none → H2 p = some (.lst xs) → RpA K G2 xs es → Q (.ref p) H2) → sp (.ref o :: (vs ++ [])) H1 Q E0') : EvF K (tMeth C m sp [] E0' to ar) σ G es := fun H e Q q =>
  h H e _ fun G1 H1 s1 => ⟨o, dx, fs, rfl, s1.i.k _ _ (s1.g.k _ _ hi rfl) rfl, hl, (ha.mono s1.g) H1 s1.i _ fun vs G2 H2 s2 r => hs vs G2 H2 Q (s1.g.trans s2.g) s2.i r fun p xs G3 H3 s3 h1 h2 h3 h4 => q p xs G3 H3 ((s1.trans s2).trans s3) ((s1.trans s2).pre h1) h2 h3 h4⟩
/-- .. and tells data -/
theorem e_methR (h : EvO to σ G o) (hi : G o = some (.ins C dx fs)) (hl : fs.lookup m = none) (ha : EvAs K ar σ G ds) (hs : ∀ vs G1 H1 Q, Ex G G1 → Ex G1 H1 → RpA K G1 vs ds → (∀ v G2 H2, Step G1 H1 G2 H2 → Rp K G2 v d → Q v H2) → sp (.ref o :: (vs ++ [])) H1 Q E0') : EvD K (tMeth C m sp [] E0' to ar) σ G d := fun H e Q q =>
  h H e _ fun G1 H1 s1 => ⟨o, dx, fs, rfl, s1.i.k _ _ (s1.g.k _ _ hi rfl) rfl, hl, (ha.mono s1.g) H1 s1.i _ fun vs G2 H2 s2 r => hs vs G2 H2 Q (s1.g.trans s2.g) s2.i r fun v G3 H3 s3 h1 => q v G3 H3 ((s1.trans s2).trans s3) h1⟩
/-! ### fields -/
/-- o.f = data of tuples -/
theorem s_fldV {f : Str} (c : Chg G0 M0 H0 as0 G M H as) (hl : o ∈ as) (hm : M o = some (.ins C dx fs)) (h : EvD K te σ (over G M) d) (hd : d.tupO = true) (ho : EvO to σ (over G M) o) (cl : Cls K C) (n : NoAttr K C f) (hz : fs.length < 1000)
    (k : ∀ v G1 H1, Ex G G1 → Chg G0 M0 H0 as0 G1 (upd M o (.ins C dx (putF f v fs))) H1 as → Rp K G1 v d → Dn.nx σ H1) : sFld K to te f Dn σ H :=
  h H (c.o.ex c.ii) _ fun v G1 H1 s1 r1 => (ho.mono s1.g) H1 s1.i _ fun G2 H2 s2 => by
    obtain ⟨G4, s4, o4, tr, _, gM⟩ := (s1.trans s2).thawM c.o
    exact ⟨o, C, dx, fs, rfl, o4.h _ _ hm, cl, n, hz, k v G4 _ s4.g ((c.then s4).upd hl hm) ((r1.ex s2.g).off (off_tr c.o tr gM) hd)⟩
theorem q_fldV {f : Str} (c : Chg G0 M0 H0 as0 G M H as) (hl : o ∈ as) (hm : M o = some (.ins C dx fs)) (h : EvD K te σ (over G M) d) (hd : d.tupO = true) (ho : EvO to σ (over G M) o) (cl : Cls K C) (n : NoAttr K C f) (hz : fs.length < 1000)
    (k : ∀ v G1 H1, Ex G G1 → Chg G0 M0 H0 as0 G1 (upd M o (.ins C dx (putF f v fs))) H1 as → Rp K G1 v d → tz Dn σ H1) : tSeq (sFld K to te f) tz Dn σ H := s_fldV (Dn := { Dn with nx := tz Dn }) c hl hm h hd ho cl n hz k
/-- o.f = {}, o in slot j -/
theorem q_fldT {f : Str} (c : Chg G0 M0 H0 as0 G M H as) (hl : o ∈ as) (hm : M o = some (.ins C dx fs)) (hj : σ[j]? = some (some (.ref o))) (cl : Cls K C) (n : NoAttr K C f) (hz : fs.length < 1000)
    (k : ∀ p H1, M p = none → H p = none → p ≠ o → Chg G0 M0 H0 as0 G (upd (upd M p (.dT [])) o (.ins C dx (putF f (.ref p) fs))) H1 (p :: as) → tz Dn σ H1) : tSeq (sFld K (tVar j) tDNewT f) tz Dn σ H := fun p hp => by
  have np : p ≠ o := fun z => by rw [z, c.o.h o _ hm] at hp; cases hp
  have c2 := c.new (w := .dT []) hp
  have hm2 : upd M p (.dT []) o = some (.ins C dx fs) := by rw [upd_ne (Ne.symm np)]; exact hm
  exact ⟨_, hj, o, C, dx, fs, rfl, c2.o.h _ _ hm2, cl, n, hz, k p _ (c.ne hp) hp np (c2.upd (List.mem_cons_of_mem _ hl) hm2)⟩
theorem Chg.less (c : Chg G0 M0 H0 as0 G M H as) {as1 : List Addr} (h : ∀ b ∈ as1, b ∈ as) : Chg G0 M0 H0 as0 G M H as1 := ⟨c.s, c.o, c.o0, c.d, c.f, fun b hb => c.n b (h b hb)⟩
/-! ### draws -/
variable {R : D → Prop} {Rs : List D → Prop}
theorem qr_asgC (c : Chg G0 M0 H0 as0 G M H as) (hp : p ∈ as) (hm : DiceM M p) (h : EvR K p te σ (over G (delM M p)) R) (hf : ∀ d, R d → d.tupO = true)
    (k : ∀ v d G1 H1 M1, Ex G G1 → Chg G0 M0 H0 as0 G1 M1 H1 as → DiceM M1 p → (∀ b, b ≠ p → M1 b = M b) → R d → Rp K G1 v d → tz Dn (σ.set i (some v)) H1) : tSeq (tAsg te (gName i)) tz Dn σ H := h.chg c hp hm hf _ k
theorem qrf_asgC (c : Chg G0 M0 H0 as0 G M H as) (hp : p ∈ as) (hm : DiceM M p) (h : EvRF K p te σ (over G (delM M p)) Rs) (hf : ∀ ds, Rs ds → D.tupOA ds = true)
    (k : ∀ v ds G1 H1 M1, Ex G G1 → Chg G0 M0 H0 as0 G1 M1 H1 as → DiceM M1 p → (∀ b, b ≠ p → M1 b = M b) → Rs ds → Rp K G1 v (.lst ds) → tz Dn (σ.set i (some v)) H1) : tSeq (tAsg te (gName i)) tz Dn σ H := h.chg c hp hm hf _ k
theorem qr_asgTC (c : Chg G0 M0 H0 as0 G M H as) (hp : p ∈ as) (hm : DiceM M p) (h : EvR K p te σ (over G (delM M p)) R) (hf : ∀ d, R d → d.tupO = true)
    (k : ∀ v d G1 H1 M1, Ex G G1 → Chg G0 M0 H0 as0 G1 M1 H1 as → DiceM M1 p → (∀ b, b ≠ p → M1 b = M b) → R d → Rp K G1 v d → g v σ H1 (tz Dn)) : tSeq (tAsg te g) tz Dn σ H := h.chg c hp hm hf _ k
/-- a range whose end is drawn -/
theorem s_rngRC {lo hi : Nat} (c : Chg G0 M0 H0 as0 G M H as) (hp : p ∈ as) (hm : DiceM M p) (h : EvR K p te σ (over G (delM M p)) (Btw lo hi))
    (k : ∀ r G1 H1 M1, lo ≤ r → r ≤ hi → Ex G G1 → Chg G0 M0 H0 as0 G1 M1 H1 as → DiceM M1 p → (∀ b, b ≠ p → M1 b = M b) → tFor (iRng1 (tCons (tC (.int (r : Nat))) tNil)) g tu Dn σ H1) : tFor (iRng1 (tCons te tNil)) g tu Dn σ H :=
  h.chg c hp hm (fun d ⟨r, e, _⟩ => by rw [e]; rfl) _ fun v d G1 H1 M1 e1 c1 dm hM ⟨r, e2, h1, h2⟩ rp => by
    subst e2
    have z := rp.int_of
    subst z
    exact k r G1 H1 M1 h1 h2 e1 c1 dm hM
theorem q_rngRC {lo hi : Nat} (c : Chg G0 M0 H0 as0 G M H as) (hp : p ∈ as) (hm : DiceM M p) (h : EvR K p te σ (over G (delM M p)) (Btw lo hi))
    (k : ∀ r G1 H1 M1, lo ≤ r → r ≤ hi → Ex G G1 → Chg G0 M0 H0 as0 G1 M1 H1 as → DiceM M1 p → (∀ b, b ≠ p → M1 b = M b) → tSeq (tFor (iRng1 (tCons (tC (.int (r : Nat))) tNil)) g tu) tz Dn σ H1) : tSeq (tFor (iRng1 (tCons te tNil)) g tu) tz Dn σ H := s_rngRC (Dn := { Dn with nx := tz Dn }) c hp hm h k
theorem r_int1b (h : EvR K p te σ G IsBl) : EvR K p (tCB (fun xs H Q => (∃ i, xs = [.int i] ∧ Q (.int i) H) ∨ ∃ k, xs = [.bl k] ∧ Q (.int (if k then 1 else 0)) H) (tCons te tNil)) σ G (Btw 0 1) := fun H e g dc Q q =>
  h H e g dc _ fun v d G1 H1 s1 g1 d1 ⟨b, hb⟩ rp => by
    subst hb
    refine .inr ⟨b, by rw [rp.bl_of], ?_⟩
    cases b
    · exact q _ (.int ((0 : Nat) : Int)) G1 H1 s1 g1 d1 ⟨0, rfl, by omega, by omega⟩ (.int _)
    · exact q _ (.int ((1 : Nat) : Int)) G1 H1 s1 g1 d1 ⟨1, rfl, by omega, by omega⟩ (.int _)
theorem r_mul1 {lo hi : Nat} (ha : EvR K p ta σ G (Btw lo hi)) (hb : EvR K p tb σ G (Btw 0 1)) (hh : hi ≤ 1000000) : EvR K p (tOp rMulA ta tb) σ G (Btw 0 hi) :=
  r_op ha hb fun x y d1 d2 G1 H1 Q e1 e2 r1 r2 rp1 rp2 q => by
    obtain ⟨i, rfl, h1, h2⟩ := r1
    obtain ⟨j, rfl, h3, h4⟩ := r2
    have hj : j = 0 ∨ j = 1 := by omega
    refine .inl ⟨i, j, rp1.int_of, rp2.int_of, .inl ⟨by omega, by omega⟩, ?_⟩
    rcases hj with rfl | rfl
    · show Q (.int ((i : Int) * ((0 : Nat) : Int))) H1
      rw [show (i : Int) * ((0 : Nat) : Int) = ((0 : Nat) : Int) by simp]
      exact q _ (.int ((0 : Nat) : Int)) ⟨0, rfl, by omega, by omega⟩ (.int _)
    · show Q (.int ((i : Int) * ((1 : Nat) : Int))) H1
      rw [show (i : Int) * ((1 : Nat) : Int) = ((i : Nat) : Int) by simp]
      exact q _ (.int ((i : Nat) : Int)) ⟨i, rfl, by omega, by omega⟩ (.int _)
theorem r_eqI1 {a1 b1 a2 b2 : Nat} (ha : EvR K p ta σ G (Btw a1 b1)) (hb : EvR K p tb σ G (Btw a2 b2)) : EvR K p (tOp (rEqA K) ta tb) σ G IsBl :=
  r_op ha hb fun x y d1 d2 G1 H1 Q e1 e2 r1 r2 rp1 rp2 q => by
    obtain ⟨i, rfl, _⟩ := r1
    obtain ⟨j, rfl, _⟩ := r2
    have z1 := rp1.int_of
    have z2 := rp2.int_of
    subst z1 z2
    exact .inl ⟨rfl, q _ (.bl _) ⟨_, rfl⟩ (.bl _)⟩
/-- for x in l, l an own list that stays as it is meanwhile -/
theorem s_forLM (c : Chg G0 M0 H0 as0 G M H as) (ho : EvO te σ (over G M) l) (hm : M l = some (.lst xs))
    (Pv : Nat → L2.St → Hp → Hp → Hp → List Addr → Prop)
    (h0 : ∀ G1 H1, Ex G G1 → Chg G0 M0 H0 as0 G1 M H1 as → Pv 0 σ G1 M H1 as)
    (hs : ∀ i x, xs[i]? = some x → ∀ σ' G' M' H' as', Ex G G' → Chg G0 M0 H0 as0 G' M' H' as' → M' l = some (.lst xs) → Pv i σ' G' M' H' as' →
      tu { Dn with nx := fun σ2 H3 => ∃ G3 M3 as3, Ex G G3 ∧ Chg G0 M0 H0 as0 G3 M3 H3 as3 ∧ M3 l = some (.lst xs) ∧ Pv (i + 1) σ2 G3 M3 H3 as3, ct := fun σ2 H3 => ∃ G3 M3 as3, Ex G G3 ∧ Chg G0 M0 H0 as0 G3 M3 H3 as3 ∧ M3 l = some (.lst xs) ∧ Pv (i + 1) σ2 G3 M3 H3 as3, bk := Dn.nx } (σ'.set j (some x)) H')
    (hd : ∀ σ' G' M' H' as', Ex G G' → Chg G0 M0 H0 as0 G' M' H' as' → M' l = some (.lst xs) → Pv xs.length σ' G' M' H' as' → Dn.nx σ' H') : tFor (iSeq K te) (gName j) tu Dn σ H :=
  .inl (ho.own c _ fun G1 H1 e1 c1 => by
    refine ⟨l, rfl, ⟨xs, .of (c1.o.h _ _ hm)⟩, ?_⟩
    refine ⟨fun i m σ' H' => m = xs.length - i ∧ i ≤ xs.length ∧ ∃ G' M' as', Ex G G' ∧ Chg G0 M0 H0 as0 G' M' H' as' ∧ M' l = some (.lst xs) ∧ Pv i σ' G' M' H' as', ⟨xs.length, by omega, Nat.zero_le _, G1, M, as, e1, c1, hm, h0 G1 H1 e1 c1⟩, ?_⟩
    rintro i m σ' H' ⟨rfl, hi', G', M', as', e', c', hm', pv⟩
    have hx' := c'.o.h _ _ hm'
    by_cases hlt : i < xs.length
    · refine .inr ⟨⟨xs, xs[i], .of hx', by simp [hlt]⟩, _, fun σ2 H3 q => ⟨xs.length - (i + 1), by omega, rfl, hlt, q⟩, fun x H2 y => ?_⟩
      obtain ⟨rfl, y⟩ := y
      exact hs i x (y xs (.of hx')) σ' G' M' _ as' e' c' hm' pv
    · have z : i = xs.length := by omega
      subst z
      exact .inl ⟨⟨xs, .of hx', Nat.le_refl _⟩, hd σ' G' M' H' as' e' c' hm' pv⟩)
end
end J

/-! Tables of the module; comprehensions over drawn ranges; if-expressions with slices. -/
namespace J
open PySem PySem.Spec PyProof.Rows L2 Evl
/-- at a: a written dict, texts to whole numbers -/
def KTab (K : PySem.W.Frag) (w : World) (a : Addr) (kvs : List (Str × Int)) : Prop := ∃ es n, KDict K w a es n ∧ ∀ q ∈ kvs, ∃ u, PySem.W.nsIn K a q.1 = some (some u) ∧ RelV (.int q.2) u
def rNotInKD (K : PySem.W.Frag) (w : World) : R2 := fun x y H Q => ∃ a kvs q, y = .ref a ∧ KTab K w a kvs ∧ q ∈ kvs ∧ x = .str q.1 ∧ Q (.bl false) H
theorem op_ninKD {X : Cx} (K : PySem.W.Frag) (w : World) (h : X.K = K) (h2 : X.w = w) : OpR X (compareOp .NotIn) (rNotInKD K w) := by
  subst h h2
  intro pins s σ H x y v u Q I rx ry h
  obtain ⟨a, kvs, q, rfl, ⟨es, n, D, hk⟩, hq, rfl, k⟩ := h
  obtain ⟨t, rfl⟩ := rx
  cases ry
  obtain ⟨u, hu, _⟩ := hk q hq
  refine wpAny_notIn_of (PySem.strKind_is X.prog X.w q.1 t) D.low (PySem.W.mapOf_K (prog := X.prog) I.kIn D.at_ D.lit) ?_
  rw [PySem.W.find_K D.at_ hu]
  exact ⟨.bl false, H, I.tok _, rfl, k⟩
theorem ix_kdK {X : Cx} (K : PySem.W.Frag) (w : World) (h : X.K = K) (h2 : X.w = w) : IxR X (rIxD K w) := by
  subst h h2
  exact ix_kdict
section
variable [Tbs] {K : PySem.W.Frag} {w : World} {G G0 H0 G1 H H1 : Hp} {σ : L2.St} {te tb te0 ta tx ty : TE} {ds : List D} {Dn : Ends} {tz : TS} {g gg : TG} {p a : Addr} {Rs : List D → Prop} {wi : TI} {n : Nat} {Y : Nat → D} {js vs : List Nat} {tt : TT} {d : D} {b : Bool}
theorem e_ninKD {kvs : List (Str × Int)} {q : Str × Int} (ha : EvD K ta σ G (.str q.1)) (T : KTab K w a kvs) (hq : q ∈ kvs) : EvD K (tOp (rNotInKD K w) ta (tC (.ref a))) σ G (.bl false) := fun H e Q k =>
  ha H e _ fun v G1 H1 s1 r1 => by
    have z := r1.str_of
    subst z
    exact ⟨a, kvs, q, rfl, T, hq, rfl, k _ G1 H1 s1 (.bl false)⟩
theorem e_ixKD {kvs : List (Str × Int)} {q : Str × Int} (ha : EvD K ta σ G (.str q.1)) (T : KTab K w a kvs) (hq : q ∈ kvs) : EvD K (tOp (rIxD K w) (tC (.ref a)) ta) σ G (.int q.2) := fun H e Q k =>
  ha H e _ fun v G1 H1 s1 r1 => by
    have z := r1.str_of
    subst z
    obtain ⟨es, n, D, hk⟩ := T
    obtain ⟨u, hu, ru⟩ := hk q hq
    exact ⟨a, q.1, .int q.2, rfl, rfl, ⟨es, n, u, D.at_, D.lit, hu, ru⟩, k _ G1 H1 s1 (.int _)⟩
theorem rf_lcD {lo hi : Nat} (h : EvR K p te0 σ G (Btw lo hi)) (k : ∀ n : Nat, lo ≤ n → n ≤ hi → ∀ G1, Ex G G1 → EvRF K p (tLc (iRng1 (tCons (tC (.int (n : Nat))) tNil)) g tt te vs) σ G1 Rs) : EvRF K p (tLc (iRng1 (tCons te0 tNil)) g tt te vs) σ G Rs := fun H e gp dc Q q =>
  h H e gp dc _ fun v d G1 H1 s1 g1 d1 ⟨r, hd, h1, h2⟩ rp => by
    subst hd
    have z := rp.int_of
    subst z
    have S1 : Sd p G H G1 H1 := ⟨s1, g1, d1⟩
    exact k r h1 h2 G1 s1.g H1 s1.i g1 d1 Q fun x xs ds G2 H2 s2 q1 q2 q3 q4 q5 => q x xs ds G2 H2 (S1.trans s2) (S1.pre q1 (d1.ne q1)) q2 q3 q4 q5
end
end J

/-! l.pop(0) of an own list; a drawn value or another. -/
namespace J
open PySem PySem.Spec PyProof.Rows L2 Evl
section
variable [Tbs] {K : PySem.W.Frag} {M M0 G G0 H0 G1 H H1 : Hp} {as as0 : List Addr} {l p : Addr} {σ : L2.St} {te ta tb : TE} {t : TT} {b : Bool} {y : V} {xs : List V} {Dn : Ends} {tz : TS} {i : Nat} {R : D → Prop}
theorem e_popM (c : Chg G0 M0 H0 as0 G M H as) (hl : l ∈ as) (hm : M l = some (.lst (y :: xs))) (ho : EvO ta σ (over G M) l) (Q : VK) (k : ∀ G1 H1, Ex G G1 → Chg G0 M0 H0 as0 G1 (upd M l (.lst xs)) H1 as → Q y H1) : tBM K "list" rPopAt ta (tCons (tC (.int 0)) tNil) σ H Q :=
  ho H (c.o.ex c.ii) _ fun G1 H1 s1 => ⟨Or.inl ⟨rfl, _, .of (s1.i _ _ (s1.g _ _ (over_some hm)))⟩, by
    obtain ⟨G3, s3, o3, tr, _, gM⟩ := s1.thawM c.o
    have hx : seqIndex? 0 (y :: xs).length = some 0 := (ixN_seq (n := (y :: xs).length) (i := 0) (j := 0) (by unfold ixN; rw [if_pos (by decide), if_pos (by rw [List.length_cons]; omega)]; rfl)).1
    exact ⟨l, y :: xs, 0, 0, y, rfl, rfl, o3.h _ _ hm, by decide, by decide, hx, rfl, k G3 _ s3.g ((c.then s3).upd hl hm)⟩⟩
theorem q_popM (c : Chg G0 M0 H0 as0 G M H as) (hl : l ∈ as) (hm : M l = some (.lst (y :: xs))) (ho : EvO ta σ (over G M) l) (k : ∀ G1 H1, Ex G G1 → Chg G0 M0 H0 as0 G1 (upd M l (.lst xs)) H1 as → tz Dn (σ.set i (some y)) H1) : tSeq (tAsg (tBM K "list" rPopAt ta (tCons (tC (.int 0)) tNil)) (gName i)) tz Dn σ H := e_popM c hl hm ho (fun x H1 => gName i x σ H1 (tz Dn)) k
theorem q_asgNew {ds : List D} (c : Chg G0 M0 H0 as0 G M H as) (h : EvF K te σ (over G M) ds) (hd : D.tupOA ds = true) (k : ∀ q xs G1 H1, Ex G G1 → H q = none → Chg G0 M0 H0 as0 G1 (upd M q (.lst xs)) H1 (q :: as) → RpA K G1 xs ds → tz Dn (σ.set i (some (.ref q))) H1) : tSeq (tAsg te (gName i)) tz Dn σ H :=
  h.own hd c.ii c.o _ fun q xs G1 H1 s o1 h1 h2 h3 r => k q xs G1 H1 s.g h1 (c.took s h1 h2 h3) r
theorem r_if (h : EvB t σ G b) (h1 : b = true → EvR K p ta σ G R) (h2 : b = false → EvR K p tb σ G R) : EvR K p (tIf t ta tb) σ G R := fun H e g dc Q q => h H e _ fun G1 H1 s1 => by
  obtain ⟨s2, g2, d2⟩ := s1.toR g dc
  cases b with
  | true => exact ((h1 rfl).mono s1.g) H1 s1.i g2 d2 Q fun v d G3 H3 s3 g3 d3 r rp => q v d G3 H3 (s2.transR s3 d2) g3 d3 r rp
  | false => exact ((h2 rfl).mono s1.g) H1 s1.i g2 d2 Q fun v d G3 H3 s3 g3 d3 r rp => q v d G3 H3 (s2.transR s3 d2) g3 d3 r rp
end
end J

namespace J
open PySem L2 Evl
local macro_rules | `(tactic| walk_at "rp") => `(tactic| first | assumption | exact Rp.int _ | exact Rp.bl _ | exact Rp.str _ | exact Rp.non)
local macro_rules | `(tactic| walk_at "at") => `(tactic| first | rfl | assumption)
local macro_rules | `(tactic| walk_at "ev") => `(tactic| first
  | (with_reducible exact e_int) | (with_reducible exact e_bl) | (with_reducible exact e_str) | (with_reducible exact e_non)
  | ((with_reducible refine' e_var ?k1 ?k2); (case k1 => rfl); (case k2 => walk_at "rp"))
  | ((with_reducible refine' e_ix ?k1 ?k2 ?k3); (case k1 => walk_at "ev"); (case k2 => walk_at "ev"); (case k3 => walk_at "at"))
  | ((with_reducible refine' e_addI ?k1 ?k2); (case k1 => walk_at "ev"); (case k2 => walk_at "ev"))
  | ((with_reducible refine' e_sub ?k1 ?k2); (case k1 => walk_at "ev"); (case k2 => walk_at "ev"))
  | ((with_reducible refine' e_lt ?k1 ?k2); (case k1 => walk_at "ev"); (case k2 => walk_at "ev"))
  | ((with_reducible refine' e_le ?k1 ?k2); (case k1 => walk_at "ev"); (case k2 => walk_at "ev"))
  | ((with_reducible refine' e_gt ?k1 ?k2); (case k1 => walk_at "ev"); (case k2 => walk_at "ev"))
  | ((with_reducible refine' e_ge ?k1 ?k2); (case k1 => walk_at "ev"); (case k2 => walk_at "ev"))
  | ((with_reducible refine' e_eq ?k1 ?k2 ?k3); (case k1 => walk_at "ev"); (case k2 => walk_at "ev"); (case k3 => rfl))
  | ((with_reducible refine' e_ne ?k1 ?k2 ?k3); (case k1 => walk_at "ev"); (case k2 => walk_at "ev"); (case k3 => rfl))
  | ((with_reducible refine' e_isi ?k1 ?k2 ?k3); (case k1 => walk_at "ev"); (case k2 => rfl); (case k3 => rfl))
  | ((with_reducible refine' e_len ?k1 ?k2); (case k1 => walk_at "ev"); (case k2 => rfl))
  | ((with_reducible refine' e_not ?k1); (case k1 => walk_at "ev"))
  | ((with_reducible refine' e_tup ?k1 ?k2); (case k1 => walk_at "as"); (case k2 => (show _ ≤ _; decide))))
local macro_rules | `(tactic| walk_at "as") => `(tactic| first
  | (with_reducible exact a_nil)
  | ((with_reducible refine' a_cons ?k1 ?k2); (case k1 => walk_at "ev"); (case k2 => walk_at "as")))
local macro_rules | `(tactic| walk_at "bt") => `(tactic| first
  | ((with_reducible refine' b_test ?k1); (case k1 => walk_at "ev"))
  | ((with_reducible refine' b_B ?k1); (case k1 => walk_at "ev"))
  | ((with_reducible refine' b_not ?k1); (case k1 => walk_at "bt")))
local macro_rules | `(tactic| walk_at "evq") => `(tactic| ((with_reducible refine' EvD.eq ?k1 ?k2); (case k1 => walk_at "ev"); (case k2 => rfl)))
local macro_rules | `(tactic| walk_at "btq") => `(tactic| ((with_reducible refine' EvB.eq ?k1 ?k2); (case k1 => walk_at "bt"); (case k2 => rfl)))
local macro_rules | `(tactic| walk_at "bf") => `(tactic| first
  | ((with_reducible refine' b_orF ?k1 ?k2); (case k1 => walk_at "bf"); (case k2 => walk_at "bf"))
  | ((with_reducible refine' b_notT ?k1); (case k1 => walk_at "btr"))
  | ((with_reducible refine' EvB.eq ?k1 ?k2); (case k1 => walk_at "bt"); (case k2 => first | rfl | assumption | (simp only [Bool.not_eq_false', decide_eq_true_eq, decide_eq_false_iff_not]; omega))))
local macro_rules | `(tactic| walk_at "btr") => `(tactic| first
  | ((with_reducible refine' b_andT ?k1 ?k2); (case k1 => walk_at "btr"); (case k2 => walk_at "btr"))
  | ((with_reducible refine' EvB.eq ?k1 ?k2); (case k1 => walk_at "bt"); (case k2 => first | rfl | assumption | (simp only [Bool.not_eq_true', decide_eq_true_eq, decide_eq_false_iff_not]; omega))))

local macro_rules | `(tactic| walk_at "dr") => `(tactic| first
  | ((with_reducible refine' r_lit ?k1); (case k1 => decide))
  | exact r_pow6
  | ((with_reducible refine' r_min2 ?k1 ?k2); (case k1 => walk_at "dr"); (case k2 => walk_at "dr"))
  | ((with_reducible refine' r_add ?k1 ?k2); (case k1 => walk_at "dr"); (case k2 => walk_at "dr"))
  | ((with_reducible refine' r_off ?k1 ?k2 ?k3 ?k4); (case k1 => rfl); (case k2 => walk_at "dr"); (case k3 => omega); (case k4 => omega))
  | ((with_reducible refine' r_pick ?k1 ?k2 ?k3); (case k1 => walk_at "drs"); (case k2 => exact r_offN rfl e_int (by decide) (by decide)); (case k3 => decide))
  | ((with_reducible refine' r_n ?k1); (case k1 => walk_at "ev")))
local macro_rules | `(tactic| walk_at "drs") => `(tactic| first
  | ((with_reducible refine' pbw_one ?k1); (case k1 => walk_at "dr"))
  | ((with_reducible refine' pbw_cons ?k1 ?k2); (case k1 => walk_at "dr"); (case k2 => walk_at "drs")))
local macro_rules | `(tactic| walk_at "drw") => `(tactic| (refine' r_w ?k1 ?k2 ?k3; (case k1 => walk_at "dr"); (case k2 => omega); (case k3 => omega)))

def top (i : Nat) : Stmt := PySem.Challenge.pw_judgehall_k08_whole_whoever_judges_when.main.body.getD i (.Pass ⟨0, 0, 0, 0⟩)
structure Tx (K : PySem.W.Frag) (mg : Str → Option Value) : Prop where
  n_abs : mg "abs" = none
  n_bool : mg "bool" = none
  n_dict : mg "dict" = none
  n_enumerate : mg "enumerate" = none
  n_int : mg "int" = none
  n_isinstance : mg "isinstance" = none
  n_len : mg "len" = none
  n_list : mg "list" = none
  n_max : mg "max" = none
  n_min : mg "min" = none
  n_range : mg "range" = none
  n_sorted : mg "sorted" = none
  n_str : mg "str" = none
  n_sum : mg "sum" = none
  n_tuple : mg "tuple" = none
  c_FIRST : ∃ t, mg "FIRST" = some (.str (PySem.Str.ofString "first") t)
  c_BEST : ∃ t, mg "BEST" = some (.str (PySem.Str.ofString "best") t)
  c_RULES : ∃ a, mg "RULES" = some (.ref a) ∧ ∀ H, SqT K H a [V.str (PySem.Str.ofString "first"), V.str (PySem.Str.ofString "best"), V.str (PySem.Str.ofString "groups")]
  c_MOST_TEAMS : ∃ t, mg "MOST_TEAMS" = some (.int 12 t)
  c_MOST_TASKS : ∃ t, mg "MOST_TASKS" = some (.int 6 t)
  c_MOST_GROUPS : ∃ t, mg "MOST_GROUPS" = some (.int 4 t)
  c_MOST_TRIALS : ∃ t, mg "MOST_TRIALS" = some (.int 5 t)
  c_MOST_POINTS : ∃ t, mg "MOST_POINTS" = some (.int 100 t)
  c_MOST_END : ∃ t, mg "MOST_END" = some (.int 300 t)
  c_MOST_TRIES : ∃ t, mg "MOST_TRIES" = some (.int 200 t)
  c_MOST_TIME : ∃ t, mg "MOST_TIME" = some (.int 999 t)
  c_PASSED : ∃ t, mg "PASSED" = some (.str (PySem.Str.ofString "passed") t)
  c_FAILED : ∃ t, mg "FAILED" = some (.str (PySem.Str.ofString "failed") t)
  c_OPEN : ∃ t, mg "OPEN" = some (.str (PySem.Str.ofString "open") t)
  c_WRONG : ∃ t, mg "WRONG" = some (.int 20 t)
  c_LATE : ∃ t, mg "LATE" = some (.int 60 t)
  c_MOST_JUDGES : ∃ t, mg "MOST_JUDGES" = some (.int 5 t)
  k_Hall : Cls K (cA K "Hall")
  n_Hall_contest : NoAttr K (cA K "Hall") "contest"
  n_Hall_offered : NoAttr K (cA K "Hall") "offered"
  n_Hall_table : NoAttr K (cA K "Hall") "table"
  n_Hall_works : NoAttr K (cA K "Hall") "works"
  n_Hall_events : NoAttr K (cA K "Hall") "events"

section
variable [Tbs] {P : Program} {w : World} {K : PySem.W.Frag} {mg : Str → Option Value} {base : Heap}
abbrev s_is_between : Stmt := top 27
abbrev N_is_between : List Str := ["part", "low", "high"]
abbrev P_is_between : List Str := ["part", "low", "high"]
theorem sc_is_between : FnScope N_is_between P_is_between (defScope s_is_between) := ⟨rfl, rfl, rfl, by decide +kernel, rfl, by decide +kernel, by decide +kernel⟩

def isB : D → Int → Int → Bool
  | .int i, lo, hi => decide (lo ≤ i) && decide (i ≤ hi)
  | _, _, _ => false
def R_is_between (ds : List D) (r : D) : Prop := ∃ d lo hi, ds = [d, .int lo, .int hi] ∧ r = .bl (isB d lo hi)
abbrev sp_is_between (K : PySem.W.Frag) : Sp := spP K R_is_between
theorem ok_is_between {f : Addr} {fd : FuncData} (F : Fun K "is_between" "is_between" s_is_between f fd) (T : Tx K mg) : FnOk P w K mg base CX0 1 f fd P_is_between (sp_is_between K) := by
  refine F.ok sc_is_between (fun vs H Q E h => ?_) (fun cdv A outer s H vs Q E hr h => ?_)
  · obtain ⟨G, ds, r, e, ra, ⟨d, lo, hi, rfl, rfl⟩, q⟩ := h
    exact ra.len
  · obtain ⟨G, ds, r, e, ra, ⟨d, lo, hi, rfl, rfl⟩, q⟩ := h
    obtain ⟨v0, v1, v2, rfl, r0, r1, r2⟩ := ra.three
    refine ⟨_, (pss_one (ps_ret (pe_and (pe_callB (call_isiK' K rfl) (by rfl) T.n_isinstance (by decide +kernel) (pa_cons (pv 0) (pa_cons (pe_ty (n := "int") (by rfl) T.n_int (by decide +kernel)) pa_nil))) (pe_and (pe_not (pe_callB (call_isiK' K rfl) (by rfl) T.n_isinstance (by decide +kernel) (pa_cons (pv 0) (pa_cons (pe_ty (n := "bool") (by rfl) T.n_bool (by decide +kernel)) pa_nil)))) (pe_one (pe_chain op_le op_le (pv 1) (pv 0) (pv 2))))))), ?_⟩
    try dsimp only [cxOf, Cx.nox, Cx.wish]
    refine s_ret (d := .bl (isB d lo hi)) e ?_ q
    cases d with
    | int i =>
      refine (e_and (a := true) (by walk_at "ev") fun _ => e_and (a := true) (by walk_at "evq") fun _ => e_chain (by walk_at "ev") (by walk_at "ev") (fun _ => by walk_at "ev") c_le c_le).eq ?_
      rfl
    | bl b =>
      refine (e_and (a := true) (by walk_at "ev") fun _ => e_and (a := false) (b := true) (by walk_at "evq") fun z => nomatch z).eq ?_
      rfl
    | _ => exact (e_and (a := false) (b := true) (by walk_at "ev") fun z => nomatch z)
theorem e_btw {σ : L2.St} {G : Hp} {ta tb tc : TE} {i lo hi : Int} {E : XK} (ha : EvD K ta σ G (.int i)) (hb : EvD K tb σ G (.int lo)) (hc : EvD K tc σ G (.int hi)) (h1 : lo ≤ i) (h2 : i ≤ hi) : EvD K (tCall (sp_is_between K) [] E (tCons ta (tCons tb (tCons tc tNil)))) σ G (.bl true) :=
  (e_call (a_cons ha (a_cons hb (a_one hc))) ⟨_, _, _, rfl, rfl⟩).bl (by show (decide (lo ≤ i) && decide (i ≤ hi)) = true; rw [decide_eq_true h1, decide_eq_true h2]; rfl)

end

/-! ### contests, tries, verdicts as plain data -/
structure Con where
  rule : Str
  teams : Nat
  fin : Nat
  frozen : Nat
  tasks : List (List (Nat × Nat) × Nat)
def gD (g : Nat × Nat) : D := .tup [.int g.1, .int g.2]
def tkD (t : List (Nat × Nat) × Nat) : D := .tup [.tup (t.1.map gD), .int t.2]
def Con.d (c : Con) : D := .tup [.str c.rule, .int c.teams, .int c.fin, .int c.frozen, .tup (c.tasks.map tkD)]
abbrev sFirst : Str := PySem.Str.ofString "first"
abbrev sBest : Str := PySem.Str.ofString "best"
abbrev sGroups : Str := PySem.Str.ofString "groups"
structure Con.Ok (c : Con) : Prop where
  rule : c.rule = sFirst ∨ c.rule = sBest ∨ c.rule = sGroups
  teams : 2 ≤ c.teams ∧ c.teams ≤ 12
  fin : 1 ≤ c.fin ∧ c.fin ≤ 300
  frozen : c.frozen ≤ c.fin
  many : 1 ≤ c.tasks.length ∧ c.tasks.length ≤ 6
  task : ∀ t ∈ c.tasks, t.2 ≤ c.fin ∧ 1 ≤ t.1.length ∧ t.1.length ≤ 4 ∧ ∀ g ∈ t.1, (1 ≤ g.1 ∧ g.1 ≤ 5) ∧ 1 ≤ g.2 ∧ g.2 ≤ 100
def Con.task (c : Con) (k : Nat) : List (Nat × Nat) × Nat := c.tasks.getD k ([], 0)
abbrev Con.groups (c : Con) (k : Nat) : List (Nat × Nat) := (c.task k).1
abbrev Con.due (c : Con) (k : Nat) : Nat := (c.task k).2
def sizeG (gs : List (Nat × Nat)) : Nat := (gs.map (·.1)).sum
abbrev Con.size (c : Con) (k : Nat) : Nat := sizeG (c.groups k)
theorem Con.task_at {c : Con} {k : Nat} (h : k < c.tasks.length) : c.tasks[k]? = some (c.task k) := by
  unfold Con.task
  rw [List.getD_eq_getElem?_getD, List.getElem?_eq_getElem h]
  rfl
theorem Con.task_ok {c : Con} (o : c.Ok) {k : Nat} (h : k < c.tasks.length) : c.due k ≤ c.fin ∧ 1 ≤ (c.groups k).length ∧ (c.groups k).length ≤ 4 ∧ ∀ g ∈ c.groups k, (1 ≤ g.1 ∧ g.1 ≤ 5) ∧ 1 ≤ g.2 ∧ g.2 ≤ 100 :=
  o.task _ (List.mem_of_getElem? (Con.task_at h))
abbrev Try := Nat × Nat × Nat
def trD (t : Try) : D := .tup [.int t.1, .int t.2.1, .int t.2.2]
def trsD (ts : List Try) : D := .lst (ts.map trD)
structure TrOk (c : Con) (t : Try) : Prop where
  team : t.1 < c.teams
  task : t.2.1 < c.tasks.length
  time : t.2.2 ≤ 999
structure TriesOk (c : Con) (ts : List Try) : Prop where
  len : ts.length ≤ 200
  ok : ∀ t ∈ ts, TrOk c t
  rise : ts.Pairwise fun a b => a.2.2 ≤ b.2.2
def tryAt (ts : List Try) (n : Nat) : Try := ts.getD n (0, 0, 0)
theorem try_at {ts : List Try} {n : Nat} (h : n < ts.length) : ts[n]? = some (tryAt ts n) := by
  unfold tryAt
  rw [List.getD_eq_getElem?_getD, List.getElem?_eq_getElem h]
  rfl
theorem TriesOk.at {c : Con} {ts : List Try} (o : TriesOk c ts) {n : Nat} (h : n < ts.length) : TrOk c (tryAt ts n) := o.ok _ (List.mem_of_getElem? (try_at h))
abbrev Ver := Nat × Nat × Bool
def vrD (v : Ver) : D := .tup [.int v.1, .int v.2.1, .bl v.2.2]
def vrsD (vs : List Ver) : D := .lst (vs.map vrD)
abbrev szOf (c : Con) (ts : List Try) (n : Nat) : Nat := c.size (tryAt ts n).2.1
structure VersOk (c : Con) (ts : List Try) (vs : List Ver) : Prop where
  ok : ∀ v ∈ vs, v.1 < ts.length ∧ v.2.1 < szOf c ts v.1
  once : (vs.map fun v => (v.1, v.2.1)).Nodup
theorem size_le {gs : List (Nat × Nat)} (h : ∀ g ∈ gs, (1 ≤ g.1 ∧ g.1 ≤ 5) ∧ 1 ≤ g.2 ∧ g.2 ≤ 100) : sizeG gs ≤ 5 * gs.length := by
  unfold sizeG
  induction gs with
  | nil => exact Nat.le_refl _
  | cons g gs ih =>
    have h1 := h g List.mem_cons_self
    have h2 := ih fun x hx => h x (List.mem_cons_of_mem _ hx)
    rw [List.map_cons, List.sum_cons, List.length_cons]
    omega

section
variable [Tbs] {P : Program} {w : World} {K : PySem.W.Frag} {mg : Str → Option Value} {base : Heap}
abbrev s_trials_of : Stmt := top 31
abbrev N_trials_of : List Str := ["contest", "task", "many", "points"]
abbrev P_trials_of : List Str := ["contest", "task"]
theorem sc_trials_of : FnScope N_trials_of P_trials_of (defScope s_trials_of) := ⟨rfl, rfl, rfl, by decide +kernel, rfl, by decide +kernel, by decide +kernel⟩

def R_trials_of (ds : List D) (r : D) : Prop := ∃ (c : Con) (k : Nat), ds = [c.d, .int k] ∧ c.Ok ∧ k < c.tasks.length ∧ r = .int (c.size k)
abbrev sp_trials_of (K : PySem.W.Frag) : Sp := spP K R_trials_of
theorem sum_nat (l : List Nat) : (l.map fun n : Nat => (n : Int)).sum = ((l.sum : Nat) : Int) := by
  induction l with
  | nil => rfl
  | cons a l ih => rw [List.map_cons, List.sum_cons, List.sum_cons, ih]; omega
theorem ok_trials_of {f : Addr} {fd : FuncData} (F : Fun K "trials_of" "trials_of" s_trials_of f fd) (T : Tx K mg) : FnOk P w K mg base CX0 1 f fd P_trials_of (sp_trials_of K) := by
  refine F.ok sc_trials_of (fun vs H Q E h => ?_) (fun cdv A outer s H vs Q E hr h => ?_)
  · obtain ⟨G, ds, r, e, ra, ⟨c, k, rfl, oc, hk, rfl⟩, q⟩ := h
    exact ra.len
  · obtain ⟨G, ds, r, e, ra, ⟨c, k, rfl, oc, hk, rfl⟩, q⟩ := h
    obtain ⟨v0, v1, rfl, r0, r1⟩ := ra.two
    have hc := Con.task_at hk
    have ok := Con.task_ok oc hk
    refine ⟨_, (pss_one (ps_ret (pe_callB (cr_sumK K rfl rfl) (by rfl) T.n_sum (by decide +kernel) (pa_cons (pe_lc (own := [("many", 2), ("points", 3)]) (g := gTup K 2 (gCons (gName 2) (gCons (gName 3) gNil))) (tt := tYes) rfl sc_trials_of.nd (pi_seqK K rfl (pe_ix (ix_seqK K rfl) (pe_ix (ix_seqK K rfl) (pe_ix (ix_seqK K rfl) (pv 0) pe_int (fun _ _ => rfl)) (pv 1) (fun _ _ => rfl)) pe_int (fun _ _ => rfl))) (blkOk_by (own := [("many", 2), ("points", 3)]) (N := N_trials_of) (sc := defScope s_trials_of) (by decide +kernel)) (fun _ _ _ _ _ => (pg_tup rfl (pgs_cons (pg_name (i := 2) sc_trials_of.nd rfl (by first | exact Or.inl rfl | exact Or.inr rfl)) (pgs_cons (pg_name (i := 3) sc_trials_of.nd rfl (by first | exact Or.inl rfl | exact Or.inr rfl)) pgs_nil)))) (fun _ _ _ _ _ => pts_nil) (fun _ _ _ _ _ => (pv 2))) pa_nil)))), ?_⟩
    try dsimp only [cxOf, Cx.nox, Cx.wish]
    refine s_ret (d := .int (c.size k)) e ?_ q
    refine EvD.eq (e_sum (ns := (c.groups k).map fun g => (g.1 : Int)) (EvF.toD (f_lcm (xs := c.groups k) (Y := nth ((c.groups k).map gD)) (js := [2, 3]) (fun _ g => [.int g.1, .int g.2]) (fun _ => true) (fun g => .int g.1)
      (i_seqT' (List.length_map _) (e_ix (d1 := tkD (c.task k)) (e_ix (d1 := .tup (c.tasks.map tkD)) (i := k) (by walk_at "ev") (by walk_at "ev") (at_mapT hc)) e_int rfl)) (fun i x hx => by rw [nth_map hx]; exact g_two) (by omega) (fun _ _ _ => rfl) (fun us h => match us, h with | [_, _], _ => rfl)
      (fun _ _ _ _ _ _ _ => b_yes) (fun i x hx _ G1 e1 us ru => ?_))) ?_) ?_
    · obtain ⟨a, b, rfl, ra, rb⟩ := ru.two
      exact e_var rfl ra
    · rw [List.filter_eq_self.mpr (fun _ _ => rfl), List.map_map]
      rfl
    · have h := sum_nat ((c.groups k).map (·.1))
      rw [List.map_map] at h
      exact congrArg D.int h

end

section
variable [Tbs] {P : Program} {w : World} {K : PySem.W.Frag} {mg : Str → Option Value} {base : Heap}
abbrev s_is_group : Stmt := top 28
abbrev N_is_group : List Str := ["group"]
abbrev P_is_group : List Str := ["group"]
theorem sc_is_group : FnScope N_is_group P_is_group (defScope s_is_group) := ⟨rfl, rfl, rfl, by decide +kernel, rfl, by decide +kernel, by decide +kernel⟩

def R_is_group (ds : List D) (r : D) : Prop := ∃ g : Nat × Nat, ds = [gD g] ∧ ((1 ≤ g.1 ∧ g.1 ≤ 5) ∧ 1 ≤ g.2 ∧ g.2 ≤ 100) ∧ r = .bl true
abbrev sp_is_group (K : PySem.W.Frag) : Sp := spP K R_is_group
theorem ok_is_group {f : Addr} {fd : FuncData} (F : Fun K "is_group" "is_group" s_is_group f fd) (T : Tx K mg) (d_is_between : Dk P w K mg base 1 "is_between" P_is_between (sp_is_between K)) : FnOk P w K mg base CX0 2 f fd P_is_group (sp_is_group K) := by
  refine F.ok sc_is_group (fun vs H Q E h => ?_) (fun cdv A outer s H vs Q E hr h => ?_)
  · obtain ⟨G, ds, r, e, ra, ⟨g, rfl, hg, rfl⟩, q⟩ := h
    exact ra.len
  · obtain ⟨G, ds, r, e, ra, ⟨g, rfl, hg, rfl⟩, q⟩ := h
    obtain ⟨v0, rfl, r0⟩ := ra.one
    refine ⟨_, (pss_cons (ps_if (PW.pt (pw_or (pt_not (pt_val (pe_callB (call_isiK' K rfl) (by rfl) T.n_isinstance (by decide +kernel) (pa_cons (pv 0) (pa_cons (pe_ty (n := "tuple") (by rfl) T.n_tuple (by decide +kernel)) pa_nil))))) (pw_or1 (pt_cmpR (op_neK K rfl hr.units) (pe_callB (call_lenK K rfl) (by rfl) T.n_len (by decide +kernel) (pa_cons (pv 0) pa_nil)) pe_int (nomark _))))) (pss_one (ps_ret pe_bl)) pss_nil)
    (pss_one (ps_ret (pe_and (pe_fn d_is_between (hr.mono (by decide)) (by rfl) (pa_cons (pe_ix (ix_seqK K rfl) (pv 0) pe_int (fun _ _ => rfl)) (pa_cons pe_int (pa_cons (pe_gI rfl T.c_MOST_TRIALS) pa_nil)))) (pe_one (pe_fn d_is_between (hr.mono (by decide)) (by rfl) (pa_cons (pe_ix (ix_seqK K rfl) (pv 0) pe_int (fun _ _ => rfl)) (pa_cons pe_int (pa_cons (pe_gI rfl T.c_MOST_POINTS) pa_nil))))))))), ?_⟩
    try dsimp only [cxOf, Cx.nox, Cx.wish]
    refine q_no e (b_orF (b_notT (by walk_at "bt")) (by walk_at "bf")) fun G1 H1 s1 => ?_
    have r0 := r0.ex s1.g
    refine s_ret (d := .bl true) s1.i ?_ fun v G2 H2 s2 r2 => q v G2 H2 (s1.trans s2) r2
    exact e_andT (e_btw (i := g.1) (by walk_at "ev") (by walk_at "ev") (by walk_at "ev") (by omega) (by omega)) (e_btw (i := g.2) (by walk_at "ev") (by walk_at "ev") (by walk_at "ev") (by omega) (by omega))

end

section
variable [Tbs] {P : Program} {w : World} {K : PySem.W.Frag} {mg : Str → Option Value} {base : Heap}
abbrev s_need_tasks : Stmt := top 29
abbrev N_need_tasks : List Str := ["tasks", "end", "k", "task", "g", "group"]
abbrev P_need_tasks : List Str := ["tasks", "end"]
theorem sc_need_tasks : FnScope N_need_tasks P_need_tasks (defScope s_need_tasks) := ⟨rfl, rfl, rfl, by decide +kernel, rfl, by decide +kernel, by decide +kernel⟩

def R_need_tasks (ds : List D) (r : D) : Prop := ∃ c : Con, ds = [.tup (c.tasks.map tkD), .int c.fin] ∧ c.Ok ∧ r = .non
abbrev sp_need_tasks (K : PySem.W.Frag) : Sp := spP K R_need_tasks
theorem nth_two {α : Type} {xs : List α} {f : α → D} {j1 j2 : Nat} {i : Nat} {x : α} (h : xs[i]? = some x) : EvG K (gTup K 2 (gCons (gName j1) (gCons (gName j2) gNil))) (.tup [.int i, nth (xs.map f) i]) [j1, j2] [.int i, f x] := by
  rw [nth_map h]
  exact g_two
theorem ok_need_tasks {f : Addr} {fd : FuncData} (F : Fun K "need_tasks" "need_tasks" s_need_tasks f fd) (T : Tx K mg) (d_is_between : Dk P w K mg base 1 "is_between" P_is_between (sp_is_between K)) (d_is_group : Dk P w K mg base 2 "is_group" P_is_group (sp_is_group K)) : FnOk P w K mg base CX0 3 f fd P_need_tasks (sp_need_tasks K) := by
  refine F.ok sc_need_tasks (fun vs H Q E h => ?_) (fun cdv A outer s H vs Q E hr h => ?_)
  · obtain ⟨G, ds, r, e, ra, ⟨c, rfl, oc, rfl⟩, q⟩ := h
    exact ra.len
  · obtain ⟨G, ds, r, e, ra, ⟨c, rfl, oc, rfl⟩, q⟩ := h
    obtain ⟨v0, v1, rfl, r0, r1⟩ := ra.two
    refine ⟨_, (pss_cons (ps_if (PW.pt (pw_or (pt_not (pt_val (pe_callB (call_isiK' K rfl) (by rfl) T.n_isinstance (by decide +kernel) (pa_cons (pv 0) (pa_cons (pe_ty (n := "tuple") (by rfl) T.n_tuple (by decide +kernel)) pa_nil))))) (pw_or1 (pt_not (pt_chain op_le op_le pe_int (pe_callB (call_lenK K rfl) (by rfl) T.n_len (by decide +kernel) (pa_cons (pv 0) pa_nil)) (pe_gI rfl T.c_MOST_TASKS)))))) (pss_one ps_never) pss_nil)
    (pss_one (ps_for PassesOwn.never rfl (pi_enK K rfl (by rfl) T.n_enumerate (pa_cons (pv 0) pa_nil)) (pg_tup rfl (pgs_cons (pg_name (i := 2) sc_need_tasks.nd rfl (by first | exact Or.inl rfl | exact Or.inr rfl)) (pgs_cons (pg_name (i := 3) sc_need_tasks.nd rfl (by first | exact Or.inl rfl | exact Or.inr rfl)) pgs_nil))) (pss_cons (ps_if (PW.pt (pw_or (pt_not (pt_val (pe_callB (call_isiK' K rfl) (by rfl) T.n_isinstance (by decide +kernel) (pa_cons (pv 3) (pa_cons (pe_ty (n := "tuple") (by rfl) T.n_tuple (by decide +kernel)) pa_nil))))) (pw_or (pt_cmpR (op_neK K rfl hr.units) (pe_callB (call_lenK K rfl) (by rfl) T.n_len (by decide +kernel) (pa_cons (pv 3) pa_nil)) pe_int (nomark _)) (pw_or1 (pt_not (pt_val (pe_fn d_is_between (hr.mono (by decide)) (by rfl) (pa_cons (pe_ix (ix_seqK K rfl) (pv 3) pe_int (fun _ _ => rfl)) (pa_cons pe_int (pa_cons (pv 1) pa_nil)))))))))) (pss_one ps_never) pss_nil)
    (pss_cons (ps_if (PW.pt (pw_or (pt_not (pt_val (pe_callB (call_isiK' K rfl) (by rfl) T.n_isinstance (by decide +kernel) (pa_cons (pe_ix (ix_seqK K rfl) (pv 3) pe_int (fun _ _ => rfl)) (pa_cons (pe_ty (n := "tuple") (by rfl) T.n_tuple (by decide +kernel)) pa_nil))))) (pw_or1 (pt_not (pt_chain op_le op_le pe_int (pe_callB (call_lenK K rfl) (by rfl) T.n_len (by decide +kernel) (pa_cons (pe_ix (ix_seqK K rfl) (pv 3) pe_int (fun _ _ => rfl)) pa_nil)) (pe_gI rfl T.c_MOST_GROUPS)))))) (pss_one ps_never) pss_nil)
    (pss_one (ps_for PassesOwn.never rfl (pi_enK K rfl (by rfl) T.n_enumerate (pa_cons (pe_ix (ix_seqK K rfl) (pv 3) pe_int (fun _ _ => rfl)) pa_nil)) (pg_tup rfl (pgs_cons (pg_name (i := 4) sc_need_tasks.nd rfl (by first | exact Or.inl rfl | exact Or.inr rfl)) (pgs_cons (pg_name (i := 5) sc_need_tasks.nd rfl (by first | exact Or.inl rfl | exact Or.inr rfl)) pgs_nil))) (pss_one (ps_if (pt_not (pt_val (pe_fn d_is_group (hr.mono (by decide)) (by rfl) (pa_cons (pv 5) pa_nil)))) (pss_one ps_never) pss_nil))))))))), ?_⟩
    try dsimp only [cxOf, Cx.nox, Cx.wish]
    have hm := oc.many
    refine q_no e (b_orF (b_notT (by walk_at "bt")) (b_notT (b_test (e_chainT (i := 1) (j := c.tasks.length) (k := 6) (by walk_at "ev") (e_len (d := .tup (c.tasks.map tkD)) (by walk_at "ev") (congrArg some (List.length_map _))) (by walk_at "ev") (by omega) (by omega))))) fun G1 H1 s1 => ?_
    have r0 := r0.ex s1.g
    have r1 := r1.ex s1.g
    refine s_for (n := c.tasks.length) (js := [2, 3]) (E := fun i => [.int i, nth (c.tasks.map tkD) i]) s1 (i_enT' (List.length_map _) (by walk_at "ev")) (fun i hi => g_two) (fun i σ' G' H' => ∃ w2 w3 w4 w5, σ' = [some v0, some v1, w2, w3, w4, w5])
      (fun _ _ _ => ⟨none, none, none, none, rfl⟩) ?_ ?_
    · rintro Gw ew i hi σ' G' H' S' ew' ⟨w2, w3, w4, w5, rfl⟩ G2 H2 us s2 ru
      have hk := Con.task_at hi
      obtain ⟨ot1, ot2, ot3, ot4⟩ := Con.task_ok oc hi
      rw [nth_map hk] at ru
      obtain ⟨a, b, rfl, ra, rb⟩ := ru.two
      have e2 : Ex G1 G2 := ew.trans (ew'.trans s2.g)
      have q0 := r0.ex e2
      have q1 := r1.ex e2
      show tSeq _ _ _ [some v0, some v1, some a, some b, w4, w5] _
      refine q_no s2.i (b_orF (b_notT (b_B (e_isi (d := tkD (c.task i)) (by walk_at "ev") rfl rfl))) (b_orF (b_test (EvD.bl (e_ne (e_len (d := tkD (c.task i)) (by walk_at "ev") rfl) e_int rfl) rfl)) (b_notT (b_B (e_btw (i := c.due i) (e_ix (d1 := tkD (c.task i)) (by walk_at "ev") e_int rfl) e_int (by walk_at "ev") (by omega) (by omega)))))) fun G3 H3 s3 => ?_
      have q0 := q0.ex s3.g
      have q1 := q1.ex s3.g
      have rb := rb.ex s3.g
      refine q_no s3.i (b_orF (b_notT (b_B (e_isi (d := .tup ((c.groups i).map gD)) (e_ix (d1 := tkD (c.task i)) (by walk_at "ev") e_int rfl) rfl rfl))) (b_notT (b_test (e_chainT (i := 1) (j := (c.groups i).length) (k := 4) (by walk_at "ev") (e_len (d := .tup ((c.groups i).map gD)) (e_ix (d1 := tkD (c.task i)) (by walk_at "ev") e_int rfl) (congrArg some (List.length_map _))) (by walk_at "ev") (by omega) (by omega))))) fun G4 H4 s4 => ?_
      have rb := rb.ex s4.g
      have S4 := ((S'.trans s2).trans s3).trans s4
      refine s_for (n := (c.groups i).length) (js := [4, 5]) (E := fun j => [.int j, nth ((c.groups i).map gD) j]) S4 (i_enT' (List.length_map _) (e_ix (d1 := tkD (c.task i)) (by walk_at "ev") e_int rfl)) (fun i hi => g_two) (fun j σ' G' H' => ∃ w4 w5, σ' = [some v0, some v1, some a, some b, w4, w5])
        (fun _ _ _ => ⟨w4, w5, rfl⟩) ?_ ?_
      · rintro Gv ev j hj σ2 G5 H5 S5 ev' ⟨w4, w5, rfl⟩ G6 H6 us s6 ru
        have hg : (c.groups i)[j]? = some ((c.groups i)[j]) := List.getElem?_eq_getElem hj
        have og := ot4 _ (List.mem_of_getElem? hg)
        rw [nth_map hg] at ru
        obtain ⟨x, y, rfl, rx, ry⟩ := ru.two
        refine s_if (b := false) s6.i (b_notT (b_B (e_call (a_one (by walk_at "ev")) ⟨_, rfl, og, rfl⟩))) (fun z => nomatch z) fun _ G7 H7 s7 => ?_
        have S7 := (S5.trans s6).trans s7
        exact ⟨G7, S7, ev'.trans (s6.g.trans s7.g), some x, some y, rfl⟩
      · rintro σ2 G5 H5 S5 e5 ⟨w4, w5, rfl⟩
        exact ⟨G5, S5, (((ew'.trans s2.g).trans s3.g).trans s4.g).trans e5, some a, some b, w4, w5, rfl⟩
    · rintro σ' G' H' S' ew ⟨w2, w3, w4, w5, rfl⟩
      exact q .non G' H' S' .non

end

section
variable [Tbs] {P : Program} {w : World} {K : PySem.W.Frag} {mg : Str → Option Value} {base : Heap}
abbrev s_need_contest : Stmt := top 30
abbrev N_need_contest : List Str := ["contest", "rule", "teams", "end", "frozen", "tasks"]
abbrev P_need_contest : List Str := ["contest"]
theorem sc_need_contest : FnScope N_need_contest P_need_contest (defScope s_need_contest) := ⟨rfl, rfl, rfl, by decide +kernel, rfl, by decide +kernel, by decide +kernel⟩

def R_need_contest (ds : List D) (r : D) : Prop := ∃ c : Con, ds = [c.d] ∧ c.Ok ∧ r = .non
abbrev sp_need_contest (K : PySem.W.Frag) : Sp := spP K R_need_contest
theorem ok_need_contest {f : Addr} {fd : FuncData} (F : Fun K "need_contest" "need_contest" s_need_contest f fd) (T : Tx K mg) (d_is_between : Dk P w K mg base 1 "is_between" P_is_between (sp_is_between K)) (d_need_tasks : Dk P w K mg base 3 "need_tasks" P_need_tasks (sp_need_tasks K)) : FnOk P w K mg base CX0 4 f fd P_need_contest (sp_need_contest K) := by
  refine F.ok sc_need_contest (fun vs H Q E h => ?_) (fun cdv A outer s H vs Q E hr h => ?_)
  · obtain ⟨G, ds, r, e, ra, ⟨c, rfl, oc, rfl⟩, q⟩ := h
    exact ra.len
  · obtain ⟨G, ds, r, e, ra, ⟨c, rfl, oc, rfl⟩, q⟩ := h
    obtain ⟨v0, rfl, r0⟩ := ra.one
    obtain ⟨aR, m_RULES, sR⟩ := T.c_RULES
    refine ⟨_, (pss_cons (ps_if (PW.pt (pw_or (pt_not (pt_val (pe_callB (call_isiK' K rfl) (by rfl) T.n_isinstance (by decide +kernel) (pa_cons (pv 0) (pa_cons (pe_ty (n := "tuple") (by rfl) T.n_tuple (by decide +kernel)) pa_nil))))) (pw_or1 (pt_cmpR (op_neK K rfl hr.units) (pe_callB (call_lenK K rfl) (by rfl) T.n_len (by decide +kernel) (pa_cons (pv 0) pa_nil)) pe_int (nomark _))))) (pss_one ps_never) pss_nil)
    (pss_cons (ps_asg (pv 0) (pg_tup rfl (pgs_cons (pg_name (i := 1) sc_need_contest.nd rfl (by first | exact Or.inl rfl | exact Or.inr rfl)) (pgs_cons (pg_name (i := 2) sc_need_contest.nd rfl (by first | exact Or.inl rfl | exact Or.inr rfl)) (pgs_cons (pg_name (i := 3) sc_need_contest.nd rfl (by first | exact Or.inl rfl | exact Or.inr rfl)) (pgs_cons (pg_name (i := 4) sc_need_contest.nd rfl (by first | exact Or.inl rfl | exact Or.inr rfl)) (pgs_cons (pg_name (i := 5) sc_need_contest.nd rfl (by first | exact Or.inl rfl | exact Or.inr rfl)) pgs_nil)))))))
    (pss_cons (ps_if (PW.pt (pw_or (pt_not (pt_val (pe_callB (call_isiK' K rfl) (by rfl) T.n_isinstance (by decide +kernel) (pa_cons (pv 1) (pa_cons (pe_ty (n := "str") (by rfl) T.n_str (by decide +kernel)) pa_nil))))) (pw_or1 (pt_cmpR (op_ninK K rfl) (pv 1) (pe_gR rfl m_RULES) (by rfl))))) (pss_one ps_never) pss_nil)
    (pss_cons (ps_if (pt_not (pt_val (pe_fn d_is_between (hr.mono (by decide)) (by rfl) (pa_cons (pv 2) (pa_cons pe_int (pa_cons (pe_gI rfl T.c_MOST_TEAMS) pa_nil)))))) (pss_one ps_never) pss_nil)
    (pss_cons (ps_if (pt_not (pt_val (pe_fn d_is_between (hr.mono (by decide)) (by rfl) (pa_cons (pv 3) (pa_cons pe_int (pa_cons (pe_gI rfl T.c_MOST_END) pa_nil)))))) (pss_one ps_never) pss_nil)
    (pss_cons (ps_if (pt_not (pt_val (pe_fn d_is_between (hr.mono (by decide)) (by rfl) (pa_cons (pv 4) (pa_cons pe_int (pa_cons (pv 3) pa_nil)))))) (pss_one ps_never) pss_nil)
    (pss_one (ps_expr (pe_fn d_need_tasks (hr.mono (by decide)) (by rfl) (pa_cons (pv 5) (pa_cons (pv 3) pa_nil))))))))))), ?_⟩
    try dsimp only [cxOf, Cx.nox, Cx.wish]
    refine q_no e (b_orF (b_notT (b_B (e_isi (d := c.d) (by walk_at "ev") rfl rfl))) (b_test (EvD.bl (e_ne (e_len (d := c.d) (by walk_at "ev") rfl) e_int rfl) rfl))) fun G1 H1 s1 => ?_
    have r0 := r0.ex s1.g
    refine q_asgT s1.i (d := c.d) (js := [1, 2, 3, 4, 5]) (es := [.str c.rule, .int c.teams, .int c.fin, .int c.frozen, .tup (c.tasks.map tkD)]) (by walk_at "ev")
      (g_tup (g_cons g_name (g_cons g_name (g_cons g_name (g_cons g_name (g_cons g_name g_nil rfl) rfl) rfl) rfl) rfl) rfl) fun us G2 H2 s2 ru => ?_
    obtain ⟨a1, a2, a3, a4, a5, rfl, p1, p2, p3, p4, p5⟩ := ru.five
    have r0 := r0.ex s2.g
    show tSeq _ _ _ [some v0, some a1, some a2, some a3, some a4, some a5] _
    have S2 := s1.trans s2
    refine q_no s2.i (b_orF (b_notT (by walk_at "bt")) (b_test (EvD.bl (e_ninK (by walk_at "ev") rfl sR rfl) ?_))) fun G3 H3 s3 => ?_
    · have h := oc.rule
      revert h
      generalize c.rule = ru
      rintro (h | h | h) <;> (subst h; decide +kernel)
    have p2 := p2.ex s3.g
    have p3 := p3.ex s3.g
    have p4 := p4.ex s3.g
    have p5 := p5.ex s3.g
    have ot := oc.teams
    have of' := oc.fin
    have ofr := oc.frozen
    have S3 := S2.trans s3
    refine q_no s3.i (b_notT (b_B (e_btw (i := c.teams) (by walk_at "ev") (by walk_at "ev") (by walk_at "ev") (by omega) (by omega)))) fun G4 H4 s4 => ?_
    have p3 := p3.ex s4.g
    have p4 := p4.ex s4.g
    have p5 := p5.ex s4.g
    have S4 := S3.trans s4
    refine q_no s4.i (b_notT (b_B (e_btw (i := c.fin) (by walk_at "ev") (by walk_at "ev") (by walk_at "ev") (by omega) (by omega)))) fun G5 H5 s5 => ?_
    have p3 := p3.ex s5.g
    have p4 := p4.ex s5.g
    have p5 := p5.ex s5.g
    have S5 := S4.trans s5
    refine q_no s5.i (b_notT (b_B (e_btw (i := c.frozen) (by walk_at "ev") (by walk_at "ev") (by walk_at "ev") (by omega) (by omega)))) fun G6 H6 s6 => ?_
    have p3 := p3.ex s6.g
    have p5 := p5.ex s6.g
    have S6 := S5.trans s6
    refine s_drop s6.i (d := .non) (e_call (a_cons (by walk_at "ev") (a_one (by walk_at "ev"))) ⟨c, rfl, oc, rfl⟩) fun G7 H7 s7 => ?_
    exact q .non G7 H7 (S6.trans s7) .non

end

section
variable [Tbs] {P : Program} {w : World} {K : PySem.W.Frag} {mg : Str → Option Value} {base : Heap}
abbrev s_is_try : Stmt := top 32
abbrev N_is_try : List Str := ["one", "contest"]
abbrev P_is_try : List Str := ["one", "contest"]
theorem sc_is_try : FnScope N_is_try P_is_try (defScope s_is_try) := ⟨rfl, rfl, rfl, by decide +kernel, rfl, by decide +kernel, by decide +kernel⟩

def R_is_try (ds : List D) (r : D) : Prop := ∃ (c : Con) (t : Try), ds = [trD t, c.d] ∧ c.Ok ∧ TrOk c t ∧ r = .bl true
abbrev sp_is_try (K : PySem.W.Frag) : Sp := spP K R_is_try
theorem ok_is_try {f : Addr} {fd : FuncData} (F : Fun K "is_try" "is_try" s_is_try f fd) (T : Tx K mg) (d_is_between : Dk P w K mg base 1 "is_between" P_is_between (sp_is_between K)) : FnOk P w K mg base CX0 2 f fd P_is_try (sp_is_try K) := by
  refine F.ok sc_is_try (fun vs H Q E h => ?_) (fun cdv A outer s H vs Q E hr h => ?_)
  · obtain ⟨G, ds, r, e, ra, ⟨c, t, rfl, oc, ot, rfl⟩, q⟩ := h
    exact ra.len
  · obtain ⟨G, ds, r, e, ra, ⟨c, t, rfl, oc, ot, rfl⟩, q⟩ := h
    obtain ⟨v0, v1, rfl, r0, r1⟩ := ra.two
    refine ⟨_, (pss_cons (ps_if (PW.pt (pw_or (pt_not (pt_val (pe_callB (call_isiK' K rfl) (by rfl) T.n_isinstance (by decide +kernel) (pa_cons (pv 0) (pa_cons (pe_ty (n := "tuple") (by rfl) T.n_tuple (by decide +kernel)) pa_nil))))) (pw_or (pt_cmpR (op_neK K rfl hr.units) (pe_callB (call_lenK K rfl) (by rfl) T.n_len (by decide +kernel) (pa_cons (pv 0) pa_nil)) pe_int (nomark _)) (pw_or1 (pt_not (pt_val (pe_fn d_is_between (hr.mono (by decide)) (by rfl) (pa_cons (pe_ix (ix_seqK K rfl) (pv 0) pe_int (fun _ _ => rfl)) (pa_cons pe_int (pa_cons (pe_op op_sub (pe_ix (ix_seqK K rfl) (pv 1) pe_int (fun _ _ => rfl)) pe_int) pa_nil)))))))))) (pss_one (ps_ret pe_bl)) pss_nil)
    (pss_one (ps_ret (pe_and (pe_fn d_is_between (hr.mono (by decide)) (by rfl) (pa_cons (pe_ix (ix_seqK K rfl) (pv 0) pe_int (fun _ _ => rfl)) (pa_cons pe_int (pa_cons (pe_op op_sub (pe_callB (call_lenK K rfl) (by rfl) T.n_len (by decide +kernel) (pa_cons (pe_ix (ix_seqK K rfl) (pv 1) pe_int (fun _ _ => rfl)) pa_nil)) pe_int) pa_nil)))) (pe_one (pe_fn d_is_between (hr.mono (by decide)) (by rfl) (pa_cons (pe_ix (ix_seqK K rfl) (pv 0) pe_int (fun _ _ => rfl)) (pa_cons pe_int (pa_cons (pe_gI rfl T.c_MOST_TIME) pa_nil))))))))), ?_⟩
    try dsimp only [cxOf, Cx.nox, Cx.wish]
    have h1 := oc.teams
    have h2 := oc.many
    have h3 := ot.team
    have h4 := ot.task
    have h5 := ot.time
    refine q_no e (b_orF (b_notT (b_B (e_isi (d := trD t) (by walk_at "ev") rfl rfl))) (b_orF (b_test (EvD.bl (e_ne (e_len (d := trD t) (by walk_at "ev") rfl) e_int rfl) rfl)) (b_notT (b_B (e_btw (i := t.1) (e_ix (d1 := trD t) (by walk_at "ev") e_int rfl) e_int (e_sub (i := c.teams) (e_ix (d1 := c.d) (by walk_at "ev") e_int rfl) e_int) (by omega) (by omega)))))) fun G1 H1 s1 => ?_
    have r0 := r0.ex s1.g
    have r1 := r1.ex s1.g
    refine s_ret (d := .bl true) s1.i ?_ fun v G2 H2 s2 r2 => q v G2 H2 (s1.trans s2) r2
    exact e_andT (e_btw (i := t.2.1) (e_ix (d1 := trD t) (by walk_at "ev") e_int rfl) e_int (e_sub (i := c.tasks.length) (e_len (d := .tup (c.tasks.map tkD)) (e_ix (d1 := c.d) (by walk_at "ev") e_int rfl) (congrArg some (List.length_map _))) e_int) (by omega) (by omega))
      (e_btw (i := t.2.2) (e_ix (d1 := trD t) (by walk_at "ev") e_int rfl) e_int (by walk_at "ev") (by omega) (by omega))

end

section
variable [Tbs] {P : Program} {w : World} {K : PySem.W.Frag} {mg : Str → Option Value} {base : Heap}
abbrev s_need_tries : Stmt := top 33
abbrev N_need_tries : List Str := ["contest", "tries", "at", "one"]
abbrev P_need_tries : List Str := ["contest", "tries"]
theorem sc_need_tries : FnScope N_need_tries P_need_tries (defScope s_need_tries) := ⟨rfl, rfl, rfl, by decide +kernel, rfl, by decide +kernel, by decide +kernel⟩

def R_need_tries (ds : List D) (r : D) : Prop := ∃ (c : Con) (ts : List Try), ds = [c.d, trsD ts] ∧ c.Ok ∧ TriesOk c ts ∧ r = .non
abbrev sp_need_tries (K : PySem.W.Frag) : Sp := spP K R_need_tries
theorem ok_need_tries {f : Addr} {fd : FuncData} (F : Fun K "need_tries" "need_tries" s_need_tries f fd) (T : Tx K mg) (d_is_try : Dk P w K mg base 2 "is_try" P_is_try (sp_is_try K)) : FnOk P w K mg base CX0 3 f fd P_need_tries (sp_need_tries K) := by
  refine F.ok sc_need_tries (fun vs H Q E h => ?_) (fun cdv A outer s H vs Q E hr h => ?_)
  · obtain ⟨G, ds, r, e, ra, ⟨c, ts, rfl, oc, ot, rfl⟩, q⟩ := h
    exact ra.len
  · obtain ⟨G, ds, r, e, ra, ⟨c, ts, rfl, oc, ot, rfl⟩, q⟩ := h
    obtain ⟨v0, v1, rfl, r0, r1⟩ := ra.two
    refine ⟨_, (pss_one (ps_for PassesOwn.never rfl (pi_enK K rfl (by rfl) T.n_enumerate (pa_cons (pv 1) pa_nil)) (pg_tup rfl (pgs_cons (pg_name (i := 2) sc_need_tries.nd rfl (by first | exact Or.inl rfl | exact Or.inr rfl)) (pgs_cons (pg_name (i := 3) sc_need_tries.nd rfl (by first | exact Or.inl rfl | exact Or.inr rfl)) pgs_nil))) (pss_one (ps_if (PW.pt (pw_or (pt_cmpR op_ge (pv 2) (pe_gI rfl T.c_MOST_TRIES) (nomark _)) (pw_or (pt_not (pt_val (pe_fn d_is_try (hr.mono (by decide)) (by rfl) (pa_cons (pv 3) (pa_cons (pv 0) pa_nil))))) (pw_or1 (PW.pt (pw_and (pt_cmpR op_gt (pv 2) pe_int (nomark _)) (pw_and1 (pt_cmpR op_lt (pe_ix (ix_seqK K rfl) (pv 3) pe_int (fun _ _ => rfl)) (pe_ix (ix_seqK K rfl) (pe_ix (ix_seqK K rfl) (pv 1) (pe_op op_sub (pv 2) pe_int) (fun _ _ => rfl)) pe_int (fun _ _ => rfl)) (nomark _))))))))) (pss_one ps_never) pss_nil)))), ?_⟩
    try dsimp only [cxOf, Cx.nox, Cx.wish]
    refine s_for (n := ts.length) (js := [2, 3]) (E := fun i => [.int i, nth (ts.map trD) i]) (Step.refl e) (i_enL' (List.length_map _) (by walk_at "ev")) (fun i hi => g_two) (fun i σ' G' H' => ∃ w2 w3, σ' = [some v0, some v1, w2, w3])
      (fun _ _ _ => ⟨none, none, rfl⟩) ?_ ?_
    · rintro Gw ew i hi σ' G' H' S' ew' ⟨w2, w3, rfl⟩ G2 H2 us s2 ru
      have hk := try_at hi
      have ok := ot.at hi
      rw [nth_map hk] at ru
      obtain ⟨a, b, rfl, ra, rb⟩ := ru.two
      have e2 : Ex G G2 := ew.trans (ew'.trans s2.g)
      have q0 := r0.ex e2
      have q1 := r1.ex e2
      have hlen := ot.len
      refine s_if (b := false) s2.i (b_orF (b_test (EvD.bl (e_ge (i := i) (j := 200) (by walk_at "ev") (by walk_at "ev")) (decide_eq_false (by omega)))) (b_orF (b_notT (b_B (e_call (a_cons (by walk_at "ev") (a_one (by walk_at "ev"))) ⟨c, _, rfl, oc, ok, rfl⟩))) ?_)) (fun z => nomatch z) fun _ G3 H3 s3 => ?_
      · by_cases h0 : i = 0
        · exact b_andF (b_test (EvD.bl (e_gt (i := i) (j := 0) (by walk_at "ev") e_int) (decide_eq_false (by omega))))
        · have hi1 : i - 1 < ts.length := by omega
          have hr' : (tryAt ts (i - 1)).2.2 ≤ (tryAt ts i).2.2 := by
            have h := List.pairwise_iff_getElem.mp ot.rise (i - 1) i hi1 hi (by omega)
            have e1 : ts[i - 1] = tryAt ts (i - 1) := Option.some.inj ((List.getElem?_eq_getElem hi1).symm.trans (try_at hi1))
            have e2 : ts[i] = tryAt ts i := Option.some.inj ((List.getElem?_eq_getElem hi).symm.trans (try_at hi))
            rw [e1, e2] at h
            exact h
          refine (b_and (a := true) (b := false) (b_test (EvD.bl (e_gt (i := i) (j := 0) (by walk_at "ev") e_int) (decide_eq_true (by omega)))) fun _ => ?_).eq rfl
          have ei : ((i : Int) - 1) = ((i - 1 : Nat) : Int) := by omega
          refine b_test (EvD.bl (e_lt (i := (tryAt ts i).2.2) (j := (tryAt ts (i - 1)).2.2) (e_ix (d1 := trD (tryAt ts i)) (by walk_at "ev") e_int rfl)
            (e_ix (d1 := trD (tryAt ts (i - 1))) (e_ix (d1 := trsD ts) (i := ((i - 1 : Nat) : Int)) (by walk_at "ev") (EvD.int (e_sub (by walk_at "ev") e_int) ei) (at_mapL (try_at hi1))) e_int rfl)) (decide_eq_false (by omega)))
      · exact ⟨G3, (S'.trans s2).trans s3, ew'.trans (s2.g.trans s3.g), some a, some b, rfl⟩
    · rintro σ' G' H' S' ew ⟨w2, w3, rfl⟩
      exact q .non G' H' S' .non

end

section
variable [Tbs] {P : Program} {w : World} {K : PySem.W.Frag} {mg : Str → Option Value} {base : Heap}
abbrev s_is_verdict : Stmt := top 34
abbrev N_is_verdict : List Str := ["verdict", "contest", "tries"]
abbrev P_is_verdict : List Str := ["verdict", "contest", "tries"]
theorem sc_is_verdict : FnScope N_is_verdict P_is_verdict (defScope s_is_verdict) := ⟨rfl, rfl, rfl, by decide +kernel, rfl, by decide +kernel, by decide +kernel⟩

def R_is_verdict (ds : List D) (r : D) : Prop := ∃ (c : Con) (ts : List Try) (v : Ver), ds = [vrD v, c.d, trsD ts] ∧ c.Ok ∧ TriesOk c ts ∧ v.1 < ts.length ∧ v.2.1 < szOf c ts v.1 ∧ r = .bl true
abbrev sp_is_verdict (K : PySem.W.Frag) : Sp := spP K R_is_verdict
theorem ok_is_verdict {f : Addr} {fd : FuncData} (F : Fun K "is_verdict" "is_verdict" s_is_verdict f fd) (T : Tx K mg) (d_is_between : Dk P w K mg base 1 "is_between" P_is_between (sp_is_between K)) (d_trials_of : Dk P w K mg base 1 "trials_of" P_trials_of (sp_trials_of K)) : FnOk P w K mg base CX0 2 f fd P_is_verdict (sp_is_verdict K) := by
  refine F.ok sc_is_verdict (fun vs H Q E h => ?_) (fun cdv A outer s H vs Q E hr h => ?_)
  · obtain ⟨G, ds, r, e, ra, ⟨c, ts, v, rfl, oc, ot, h1, h2, rfl⟩, q⟩ := h
    exact ra.len
  · obtain ⟨G, ds, r, e, ra, ⟨c, ts, v, rfl, oc, ot, h1, h2, rfl⟩, q⟩ := h
    obtain ⟨v0, v1, v2, rfl, r0, r1, r2⟩ := ra.three
    refine ⟨_, (pss_cons (ps_if (PW.pt (pw_or (pt_not (pt_val (pe_callB (call_isiK' K rfl) (by rfl) T.n_isinstance (by decide +kernel) (pa_cons (pv 0) (pa_cons (pe_ty (n := "tuple") (by rfl) T.n_tuple (by decide +kernel)) pa_nil))))) (pw_or (pt_cmpR (op_neK K rfl hr.units) (pe_callB (call_lenK K rfl) (by rfl) T.n_len (by decide +kernel) (pa_cons (pv 0) pa_nil)) pe_int (nomark _)) (pw_or1 (pt_not (pt_val (pe_fn d_is_between (hr.mono (by decide)) (by rfl) (pa_cons (pe_ix (ix_seqK K rfl) (pv 0) pe_int (fun _ _ => rfl)) (pa_cons pe_int (pa_cons (pe_op op_sub (pe_callB (call_lenK K rfl) (by rfl) T.n_len (by decide +kernel) (pa_cons (pv 2) pa_nil)) pe_int) pa_nil)))))))))) (pss_one (ps_ret pe_bl)) pss_nil)
    (pss_one (ps_ret (pe_and (pe_fn d_is_between (hr.mono (by decide)) (by rfl) (pa_cons (pe_ix (ix_seqK K rfl) (pv 0) pe_int (fun _ _ => rfl)) (pa_cons pe_int (pa_cons (pe_op op_sub (pe_fn d_trials_of (hr.mono (by decide)) (by rfl) (pa_cons (pv 1) (pa_cons (pe_ix (ix_seqK K rfl) (pe_ix (ix_seqK K rfl) (pv 2) (pe_ix (ix_seqK K rfl) (pv 0) pe_int (fun _ _ => rfl)) (fun _ _ => rfl)) pe_int (fun _ _ => rfl)) pa_nil))) pe_int) pa_nil)))) (pe_one (pe_callB (call_isiK' K rfl) (by rfl) T.n_isinstance (by decide +kernel) (pa_cons (pe_ix (ix_seqK K rfl) (pv 0) pe_int (fun _ _ => rfl)) (pa_cons (pe_ty (n := "bool") (by rfl) T.n_bool (by decide +kernel)) pa_nil)))))))), ?_⟩
    try dsimp only [cxOf, Cx.nox, Cx.wish]
    have hk := try_at h1
    have ok := (ot.at h1).task
    refine q_no e (b_orF (b_notT (b_B (e_isi (d := vrD v) (by walk_at "ev") rfl rfl))) (b_orF (b_test (EvD.bl (e_ne (e_len (d := vrD v) (by walk_at "ev") rfl) e_int rfl) rfl)) (b_notT (b_B (e_btw (i := v.1) (e_ix (d1 := vrD v) (by walk_at "ev") e_int rfl) e_int (e_sub (i := ts.length) (e_len (d := trsD ts) (by walk_at "ev") (congrArg some (List.length_map _))) e_int) (by omega) (by omega)))))) fun G1 H1 s1 => ?_
    have r0 := r0.ex s1.g
    have r1 := r1.ex s1.g
    have r2 := r2.ex s1.g
    refine s_ret (d := .bl true) s1.i ?_ fun v G2 H2 s2 r2 => q v G2 H2 (s1.trans s2) r2
    exact e_andT (e_btw (i := v.2.1) (e_ix (d1 := vrD v) (by walk_at "ev") e_int rfl) e_int (e_sub (i := szOf c ts v.1) (e_call (a_cons (by walk_at "ev") (a_one
        (e_ix (d1 := trD (tryAt ts v.1)) (e_ix (d1 := trsD ts) (by walk_at "ev") (e_ix (d1 := vrD v) (by walk_at "ev") e_int rfl) (at_mapL hk)) e_int rfl))) ⟨c, _, rfl, oc, ok, rfl⟩) e_int) (by omega) (by omega))
      (e_isi (d := .bl v.2.2) (e_ix (d1 := vrD v) (by walk_at "ev") e_int rfl) rfl rfl)

end

section
variable [Tbs] {P : Program} {w : World} {K : PySem.W.Frag} {mg : Str → Option Value} {base : Heap}
abbrev s_need_verdicts : Stmt := top 35
abbrev N_need_verdicts : List Str := ["contest", "tries", "verdicts", "met", "at", "verdict"]
abbrev P_need_verdicts : List Str := ["contest", "tries", "verdicts"]
theorem sc_need_verdicts : FnScope N_need_verdicts P_need_verdicts (defScope s_need_verdicts) := ⟨rfl, rfl, rfl, by decide +kernel, rfl, by decide +kernel, by decide +kernel⟩

def R_need_verdicts (ds : List D) (r : D) : Prop := ∃ (c : Con) (ts : List Try) (vs : List Ver), ds = [c.d, trsD ts, vrsD vs] ∧ c.Ok ∧ TriesOk c ts ∧ VersOk c ts vs ∧ vs.length ≤ 100000 ∧ r = .non
abbrev sp_need_verdicts (K : PySem.W.Frag) : Sp := spP K R_need_verdicts
def verK (v : Ver) : List Key := [.inl v.1, .inl v.2.1]
theorem verK_inj {a b : Ver} (h : verK a = verK b) : (a.1, a.2.1) = (b.1, b.2.1) := by
  unfold verK at h
  injection h with h1 h2
  injection h2 with h2 _
  injection h1 with h1
  injection h2 with h2
  exact Prod.ext (Int.ofNat.inj h1) (Int.ofNat.inj h2)
/-- the dict of those met so far -/
def metK (vs : List Ver) : List (List Key × V) := vs.map fun v => (verK v, .bl true)
theorem valV_map_none {α : Type} {f : α → List Key} {g : α → V} {k : List Key} : ∀ {xs : List α}, (∀ x ∈ xs, f x ≠ k) → valV (xs.map fun x => (f x, g x)) k = none
  | [], _ => rfl
  | x :: xs, h => by
    rw [List.map_cons, valV_neg (h x List.mem_cons_self)]
    exact valV_map_none fun y hy => h y (List.mem_cons_of_mem _ hy)
theorem e_key {σ : L2.St} {G : Hp} {te : TE} {v : Ver} (h : EvD K te σ G (vrD v)) : EvD K (tSl (rSlA K) te tNoPart (tPart (tC (.int 2)))) σ G (.tup ((verK v).map kD)) :=
  e_slT h p_none (p_some (e_int (K := K))) (fun z => by have h : (2 : Nat) = 3 := z.2; omega) rfl
theorem ok_need_verdicts {f : Addr} {fd : FuncData} (F : Fun K "need_verdicts" "need_verdicts" s_need_verdicts f fd) (T : Tx K mg) (d_is_verdict : Dk P w K mg base 2 "is_verdict" P_is_verdict (sp_is_verdict K)) : FnOk P w K mg base CX0 3 f fd P_need_verdicts (sp_need_verdicts K) := by
  refine F.ok sc_need_verdicts (fun vs H Q E h => ?_) (fun cdv A outer s H vs Q E hr h => ?_)
  · obtain ⟨G, ds, r, e, ra, ⟨c, ts, vs, rfl, oc, ot, ov, hlen, rfl⟩, q⟩ := h
    exact ra.len
  · obtain ⟨G, ds, r, e, ra, ⟨c, ts, vs, rfl, oc, ot, ov, hlen, rfl⟩, q⟩ := h
    obtain ⟨v0, v1, v2, rfl, r0, r1, r2⟩ := ra.three
    refine ⟨_, (pss_cons (ps_set (i := 3) sc_need_verdicts.nd rfl (by first | exact Or.inl rfl | exact Or.inr rfl) pe_dnewT)
    (pss_one (ps_for PassesOwn.never rfl (pi_enK K rfl (by rfl) T.n_enumerate (pa_cons (pv 2) pa_nil)) (pg_tup rfl (pgs_cons (pg_name (i := 4) sc_need_verdicts.nd rfl (by first | exact Or.inl rfl | exact Or.inr rfl)) (pgs_cons (pg_name (i := 5) sc_need_verdicts.nd rfl (by first | exact Or.inl rfl | exact Or.inr rfl)) pgs_nil))) (pss_cons (ps_if (PW.pt (pw_or (pt_not (pt_val (pe_fn d_is_verdict (hr.mono (by decide)) (by rfl) (pa_cons (pv 5) (pa_cons (pv 0) (pa_cons (pv 1) pa_nil)))))) (pw_or1 (pt_cmp (pc_din (hu_of hr) (pe_slice (sl_seqK K rfl) (pv 5) po_none (po_some pe_int)) (pv 3)))))) (pss_one ps_never) pss_nil)
    (pss_one (ps_dput (hu_of hr) (pv 3) (pe_slice (sl_seqK K rfl) (pv 5) po_none (po_some pe_int)) pe_bl rfl)))))), ?_⟩
    try dsimp only [cxOf, Cx.nox, Cx.wish]
    refine q_newT e fun p H1 hp gp s1 hx => ?_
    refine s_for (n := vs.length) (js := [4, 5]) (E := fun i => [.int i, nth (vs.map vrD) i]) s1 (i_enL' (List.length_map _) (by walk_at "ev")) (fun i hi => g_two)
      (fun i σ' G' H' => G' p = none ∧ H' p = some (.dT (metK (vs.take i))) ∧ ∃ w4 w5, σ' = [some v0, some v1, some v2, some (.ref p), w4, w5])
      (fun G1 H1' s => ⟨(s.keep gp hx).1, (s.keep gp hx).2, none, none, rfl⟩) ?_ ?_
    · rintro Gw ew i hi σ' G' H' S' ew' ⟨g', h', w4, w5, rfl⟩ G2 H2 us s2 ru
      have hk : vs[i]? = some vs[i] := List.getElem?_eq_getElem hi
      have ok := ov.ok _ (List.mem_of_getElem? hk)
      rw [nth_map hk] at ru
      obtain ⟨a, b, rfl, ra, rb⟩ := ru.two
      have e2 : Ex G G2 := ew.trans (ew'.trans s2.g)
      obtain ⟨g2, x2⟩ := s2.keep g' h'
      have hnew : valV (metK (vs.take i)) (verK vs[i]) = none := by
        refine valV_map_none fun x hx hxe => ?_
        obtain ⟨j, hj⟩ := List.getElem?_of_mem hx
        have hji : j < i := by
          have := (List.getElem?_eq_some_iff.mp hj).1
          rw [List.length_take] at this
          omega
        rw [List.getElem?_take, if_pos hji] at hj
        have hnd := ov.once
        have h1 : (vs.map fun v => (v.1, v.2.1))[j]? = some (x.1, x.2.1) := by rw [List.getElem?_map, hj]; rfl
        have h2 : (vs.map fun v => (v.1, v.2.1))[i]? = some (x.1, x.2.1) := by rw [List.getElem?_map, hk, verK_inj hxe]; rfl
        have := nd_ix hnd h1 h2
        omega
      have q0 := rp_own (o := .dT (metK (vs.take i))) g2 (r0.ex e2)
      have q1 := rp_own (o := .dT (metK (vs.take i))) g2 (r1.ex e2)
      have qb := rp_own (o := .dT (metK (vs.take i))) g2 rb
      have qm : Rp K (upd G2 p (.dT (metK (vs.take i)))) (.ref p) (.tab (metK (vs.take i))) := .tab upd_same
      refine q_ifO (b := false) s2.i g2 x2 (b_orF (b_notT (b_B (e_call (a_cons (by walk_at "ev") (a_cons (by walk_at "ev") (a_one (by walk_at "ev")))) ⟨c, ts, _, rfl, oc, ot, ok.1, ok.2, rfl⟩))) (b_B (EvD.bl (e_din (e_key (by walk_at "ev")) (by walk_at "ev") rfl) (by rw [hnew]; rfl)))) (fun z => nomatch z) fun _ G3 H3 s3 g3 x3 => ?_
      have rb3 := rb.ex s3.g
      refine s_dputT s3.i g3 x3 rfl e_bl rfl (e_key (by walk_at "ev")) rfl (by unfold metK; rw [List.length_map, List.length_take]; omega) fun G4 H4 s4 g4 => ?_
      have S4 := ((S'.trans s2).trans s3).trans s4
      refine ⟨G4, S4.mut hp g4, ew'.trans (s2.g.trans (s3.g.trans s4.g)), g4, ?_, some a, some b, rfl⟩
      rw [upd_same, List.take_add_one, hk]
      rw [putK_new _ hnew]
      unfold metK
      rw [List.map_append]
      rfl
    · rintro σ' G' H' S' ew ⟨_, _, w4, w5, rfl⟩
      exact q .non G' H' S' .non

end

section
variable [Tbs] {P : Program} {w : World} {K : PySem.W.Frag} {mg : Str → Option Value} {base : Heap}
abbrev s_need_all : Stmt := top 36
abbrev N_need_all : List Str := ["contest", "tries", "verdicts"]
abbrev P_need_all : List Str := ["contest", "tries", "verdicts"]
theorem sc_need_all : FnScope N_need_all P_need_all (defScope s_need_all) := ⟨rfl, rfl, rfl, by decide +kernel, rfl, by decide +kernel, by decide +kernel⟩

def R_need_all (ds : List D) (r : D) : Prop := ∃ (c : Con) (ts : List Try) (vs : List Ver), ds = [c.d, trsD ts, vrsD vs] ∧ c.Ok ∧ TriesOk c ts ∧ VersOk c ts vs ∧ vs.length ≤ 100000 ∧ r = .non
abbrev sp_need_all (K : PySem.W.Frag) : Sp := spP K R_need_all
theorem ok_need_all {f : Addr} {fd : FuncData} (F : Fun K "need_all" "need_all" s_need_all f fd) (T : Tx K mg) (d_need_contest : Dk P w K mg base 4 "need_contest" P_need_contest (sp_need_contest K)) (d_need_tries : Dk P w K mg base 3 "need_tries" P_need_tries (sp_need_tries K)) (d_need_verdicts : Dk P w K mg base 3 "need_verdicts" P_need_verdicts (sp_need_verdicts K)) : FnOk P w K mg base CX0 5 f fd P_need_all (sp_need_all K) := by
  refine F.ok sc_need_all (fun vs H Q E h => ?_) (fun cdv A outer s H vs Q E hr h => ?_)
  · obtain ⟨G, ds, r, e, ra, ⟨c, ts, vs, rfl, oc, ot, ov, hlen, rfl⟩, q⟩ := h
    exact ra.len
  · obtain ⟨G, ds, r, e, ra, ⟨c, ts, vs, rfl, oc, ot, ov, hlen, rfl⟩, q⟩ := h
    obtain ⟨v0, v1, v2, rfl, r0, r1, r2⟩ := ra.three
    refine ⟨_, (pss_cons (ps_expr (pe_fn d_need_contest (hr.mono (by decide)) (by rfl) (pa_cons (pv 0) pa_nil)))
    (pss_cons (ps_expr (pe_fn d_need_tries (hr.mono (by decide)) (by rfl) (pa_cons (pv 0) (pa_cons (pv 1) pa_nil))))
    (pss_one (ps_expr (pe_fn d_need_verdicts (hr.mono (by decide)) (by rfl) (pa_cons (pv 0) (pa_cons (pv 1) (pa_cons (pv 2) pa_nil)))))))), ?_⟩
    try dsimp only [cxOf, Cx.nox, Cx.wish]
    refine q_drop e (d := .non) (e_call (a_one (by walk_at "ev")) ⟨c, rfl, oc, rfl⟩) fun G1 H1 s1 => ?_
    have r0 := r0.ex s1.g
    have r1 := r1.ex s1.g
    have r2 := r2.ex s1.g
    refine q_drop s1.i (d := .non) (e_call (a_cons (by walk_at "ev") (a_one (by walk_at "ev"))) ⟨c, ts, rfl, oc, ot, rfl⟩) fun G2 H2 s2 => ?_
    have r0 := r0.ex s2.g
    have r1 := r1.ex s2.g
    have r2 := r2.ex s2.g
    refine s_drop s2.i (d := .non) (e_call (a_cons (by walk_at "ev") (a_cons (by walk_at "ev") (a_one (by walk_at "ev")))) ⟨c, ts, vs, rfl, oc, ot, ov, hlen, rfl⟩) fun G3 H3 s3 => ?_
    exact q .non G3 H3 ((s1.trans s2).trans s3) .non

end

section
variable [Tbs] {P : Program} {w : World} {K : PySem.W.Frag} {mg : Str → Option Value} {base : Heap}
abbrev s_table_of : Stmt := top 37
abbrev N_table_of : List Str := ["verdicts", "number", "trial", "passed"]
abbrev P_table_of : List Str := ["verdicts"]
theorem sc_table_of : FnScope N_table_of P_table_of (defScope s_table_of) := ⟨rfl, rfl, rfl, by decide +kernel, rfl, by decide +kernel, by decide +kernel⟩

def verT (vs : List Ver) : List (List Key × V) := mergeT [] (vs.map fun v => (verK v, .bl v.2.2))
def R_table_of (ds : List D) (r : D) : Prop := ∃ (vs : List Ver), ds = [vrsD vs] ∧ vs.length ≤ 100000 ∧ r = .tab (verT vs)
abbrev sp_table_of (K : PySem.W.Frag) : Sp := spP K R_table_of
theorem ok_table_of {f : Addr} {fd : FuncData} (F : Fun K "table_of" "table_of" s_table_of f fd) (T : Tx K mg) : FnOk P w K mg base CX0 1 f fd P_table_of (sp_table_of K) := by
  refine F.ok sc_table_of (fun vs H Q E h => ?_) (fun cdv A outer s H vs Q E hr h => ?_)
  · obtain ⟨G, ds, r, e, ra, ⟨vs, rfl, hlen, rfl⟩, q⟩ := h
    exact ra.len
  · obtain ⟨G, ds, r, e, ra, ⟨vs, rfl, hlen, rfl⟩, q⟩ := h
    obtain ⟨v0, rfl, r0⟩ := ra.one
    refine ⟨_, (pss_one (ps_ret (pe_callTy (call_dictK K rfl rfl hr.units) (by rfl) T.n_dict (by decide +kernel) (pa_cons (pe_lc (own := [("number", 1), ("trial", 2), ("passed", 3)]) (g := gTup K 3 (gCons (gName 1) (gCons (gName 2) (gCons (gName 3) gNil)))) (tt := tYes) rfl sc_table_of.nd (pi_seqK K rfl (pv 0)) (blkOk_by (own := [("number", 1), ("trial", 2), ("passed", 3)]) (N := N_table_of) (sc := defScope s_table_of) (by decide +kernel)) (fun _ _ _ _ _ => (pg_tup rfl (pgs_cons (pg_name (i := 1) sc_table_of.nd rfl (by first | exact Or.inl rfl | exact Or.inr rfl)) (pgs_cons (pg_name (i := 2) sc_table_of.nd rfl (by first | exact Or.inl rfl | exact Or.inr rfl)) (pgs_cons (pg_name (i := 3) sc_table_of.nd rfl (by first | exact Or.inl rfl | exact Or.inr rfl)) pgs_nil))))) (fun _ _ _ _ _ => pts_nil) (fun _ _ _ _ _ => (pe_tup (pa_cons (pe_tup (pa_cons (pv 1) (pa_cons (pv 2) pa_nil))) (pa_cons (pv 3) pa_nil))))) pa_nil)))), ?_⟩
    try dsimp only [cxOf, Cx.nox, Cx.wish]
    refine s_ret (d := .tab (verT vs)) e ?_ q
    refine e_dictT (kvs := vs.map fun v => (verK v, .bl v.2.2)) (EvF.toD (f_lcm (xs := vs) (Y := nth (vs.map vrD)) (js := [1, 2, 3]) (fun _ v => [.int v.1, .int v.2.1, .bl v.2.2]) (fun _ => true) (fun v => .tup [.tup [.int v.1, .int v.2.1], .bl v.2.2])
      (i_seqL' (List.length_map _) (by walk_at "ev")) (fun i x hx => by rw [nth_map hx]; exact g_three) (by omega) (fun _ _ _ => rfl) (fun us h => match us, h with | [_, _, _], _ => rfl)
      (fun _ _ _ _ _ _ _ => b_yes) (fun i x hx _ G1 e1 us ru => ?_))) ?_ ?_
    · obtain ⟨a, b, c, rfl, ra, rb, rc⟩ := ru.three
      exact e_tup2 (e_tup2 (e_var rfl ra) (e_var rfl rb)) (e_var rfl rc)
    · rw [List.filter_eq_self.mpr (fun _ _ => rfl), List.map_map]
      rfl
    · intro kv hkv
      obtain ⟨v, _, rfl⟩ := List.mem_map.mp hkv
      rfl

end

section
variable [Tbs] {P : Program} {w : World} {K : PySem.W.Frag} {mg : Str → Option Value} {base : Heap}
abbrev s_state_of : Stmt := top 44
abbrev N_state_of : List Str := ["some"]
abbrev P_state_of : List Str := ["some"]
theorem sc_state_of : FnScope N_state_of P_state_of (defScope s_state_of) := ⟨rfl, rfl, rfl, by decide +kernel, rfl, by decide +kernel, by decide +kernel⟩

/-- what stands of a trial: none, or whether it passed -/
def obD : Option Bool → D
  | none => .non
  | some b => .bl b
inductive Sta | passed | failed | opened
  deriving DecidableEq
def Sta.s : Sta → Str
  | .passed => PySem.Str.ofString "passed"
  | .failed => PySem.Str.ofString "failed"
  | .opened => PySem.Str.ofString "open"
def staOf (bs : List (Option Bool)) : Sta := if some false ∈ bs then .failed else if none ∈ bs then .opened else .passed
def R_state_of (ds : List D) (r : D) : Prop := ∃ bs : List (Option Bool), ds = [.lst (bs.map obD)] ∧ r = .str (staOf bs).s
abbrev sp_state_of (K : PySem.W.Frag) : Sp := spP K R_state_of
theorem flat_ob (bs : List (Option Bool)) : (bs.map obD).all D.flat = true := by
  rw [List.all_map]
  exact List.all_eq_true.mpr fun b _ => by cases b <;> rfl
theorem in_ob (b : Option Bool) (bs : List (Option Bool)) : inD (obD b) (bs.map obD) = decide (b ∈ bs) := by
  unfold inD inV
  rw [List.map_map, List.any_map]
  induction bs with
  | nil => rfl
  | cons a bs ih =>
    rw [List.any_cons, ih]
    have e : ((fun y => eqV y (obD b).toV) ∘ (D.toV ∘ obD)) a = decide (b = a) := by
      cases a <;> cases b <;> first | rfl | (rename_i x; cases x <;> rfl) | (rename_i x y; cases x <;> cases y <;> rfl)
    rw [e]
    by_cases h : b = a
    · simp [h]
    · simp [h]
theorem ok_state_of {f : Addr} {fd : FuncData} (F : Fun K "state_of" "state_of" s_state_of f fd) (T : Tx K mg) : FnOk P w K mg base CX0 1 f fd P_state_of (sp_state_of K) := by
  refine F.ok sc_state_of (fun vs H Q E h => ?_) (fun cdv A outer s H vs Q E hr h => ?_)
  · obtain ⟨G, ds, r, e, ra, ⟨bs, rfl, rfl⟩, q⟩ := h
    exact ra.len
  · obtain ⟨G, ds, r, e, ra, ⟨bs, rfl, rfl⟩, q⟩ := h
    obtain ⟨v0, rfl, r0⟩ := ra.one
    refine ⟨_, (pss_cons (ps_if (pt_cmpR (op_inK K rfl) pe_bl (pv 0) (by rfl)) (pss_one (ps_ret (pe_gS rfl T.c_FAILED))) pss_nil)
    (pss_one (ps_ret (pe_ifExp (pt_cmpR (op_inK K rfl) pe_non (pv 0) (by rfl)) (pe_gS rfl T.c_OPEN) (pe_gS rfl T.c_PASSED))))), ?_⟩
    try dsimp only [cxOf, Cx.nox, Cx.wish]
    refine q_when (b := decide (some false ∈ bs)) e (b_test (EvD.bl (e_in (d1 := .bl false) (d2 := .lst (bs.map obD)) (by walk_at "ev") (by walk_at "ev") rfl rfl (flat_ob bs)) (in_ob (some false) bs))) (fun hb G1 H1 s1 => ?_) (fun hb G1 H1 s1 => ?_)
    · refine s_ret (d := .str (staOf bs).s) s1.i ?_ fun v G2 H2 s2 r2 => q v G2 H2 (s1.trans s2) r2
      unfold staOf
      rw [if_pos (of_decide_eq_true hb)]
      exact e_str
    · have r0 := r0.ex s1.g
      refine s_ret (d := .str (staOf bs).s) s1.i ?_ fun v G2 H2 s2 r2 => q v G2 H2 (s1.trans s2) r2
      unfold staOf
      rw [if_neg (of_decide_eq_false hb)]
      refine e_if (a := decide (none ∈ bs)) (b_test (EvD.bl (e_in (d1 := .non) (d2 := .lst (bs.map obD)) (by walk_at "ev") (by walk_at "ev") rfl rfl (flat_ob bs)) (in_ob none bs))) (fun h => ?_) (fun h => ?_)
      · rw [if_pos (of_decide_eq_true h)]
        exact e_str
      · rw [if_neg (of_decide_eq_false h)]
        exact e_str

end

/-! ### the states of groups -/
theorem pick_all {n : Nat} {f : Nat → D} : pick n (fun _ => true) f = (List.range n).map f := by
  unfold pick
  rw [List.filter_eq_self.mpr (fun _ _ => rfl)]
structure TabOk (kvs : List (List Key × V)) (tb : Nat → Nat → Option Bool) : Prop where
  at' : ∀ n t : Nat, valV kvs [.inl n, .inl t] = (tb n t).map V.bl
theorem TabOk.get {kvs : List (List Key × V)} {tb : Nat → Nat → Option Bool} (h : TabOk kvs tb) (n t : Nat) : vD ((valV kvs [.inl n, .inl t]).getD .non) = obD (tb n t) := by
  rw [h.at']
  cases tb n t <;> rfl
theorem TabOk.has {kvs : List (List Key × V)} {tb : Nat → Nat → Option Bool} (h : TabOk kvs tb) (n t : Nat) : (valV kvs [.inl n, .inl t]).isSome = (tb n t).isSome := by
  rw [h.at']
  cases tb n t <;> rfl
theorem TabOk.scal {kvs : List (List Key × V)} {tb : Nat → Nat → Option Bool} (h : TabOk kvs tb) (n t : Nat) : ∀ v, valV kvs [.inl n, .inl t] = some v → scalV v = true := by
  intro v e
  rw [h.at'] at e
  cases q : tb n t with
  | none => rw [q] at e; cases e
  | some b => rw [q] at e; cases e; rfl
def grp (gs : List (Nat × Nat)) (g : Nat) : Nat × Nat := gs.getD g (0, 0)
theorem grp_at {gs : List (Nat × Nat)} {g : Nat} (h : g < gs.length) : gs[g]? = some (grp gs g) := by
  unfold grp
  rw [List.getD_eq_getElem?_getD, List.getElem?_eq_getElem h]
  rfl
def pre (gs : List (Nat × Nat)) (g : Nat) : Nat := ((gs.take g).map (·.1)).sum
theorem pre_zero (gs : List (Nat × Nat)) : pre gs 0 = 0 := rfl
theorem pre_succ {gs : List (Nat × Nat)} {g : Nat} (h : g < gs.length) : pre gs (g + 1) = pre gs g + (grp gs g).1 := by
  unfold pre
  rw [List.take_add_one, grp_at h]
  simp
theorem pre_full {gs : List (Nat × Nat)} : pre gs gs.length = sizeG gs := by
  unfold pre sizeG
  rw [List.take_length]
theorem pre_mono {gs : List (Nat × Nat)} : ∀ {a b : Nat}, a ≤ b → b ≤ gs.length → pre gs a ≤ pre gs b
  | a, b, h, hb => by
    induction b with
    | zero =>
      have : a = 0 := by omega
      subst this
      exact Nat.le_refl _
    | succ b ih =>
      by_cases e : a = b + 1
      · subst e; exact Nat.le_refl _
      · have h1 := ih (by omega) (by omega)
        rw [pre_succ (by omega)]
        omega
def gSt (gs : List (Nat × Nat)) (f : Nat → Option Bool) (g : Nat) : Sta := staOf ((List.range (grp gs g).1).map fun j => f (pre gs g + j))
def gSts (gs : List (Nat × Nat)) (f : Nat → Option Bool) : List Sta := (List.range gs.length).map (gSt gs f)
theorem gSts_len {gs : List (Nat × Nat)} {f : Nat → Option Bool} : (gSts gs f).length = gs.length := by
  unfold gSts
  rw [List.length_map, List.length_range]
theorem gSts_at {gs : List (Nat × Nat)} {f : Nat → Option Bool} {g : Nat} (h : g < gs.length) : (gSts gs f)[g]? = some (gSt gs f g) := by
  unfold gSts
  rw [List.getElem?_map, List.getElem?_range h]
  rfl
def stD (s : Sta) : D := .str s.s
/-- the groups of a try's task -/
abbrev gsOf (c : Con) (ts : List Try) (n : Nat) : List (Nat × Nat) := c.groups (tryAt ts n).2.1
theorem Con.size_le20 {c : Con} (o : c.Ok) {k : Nat} (h : k < c.tasks.length) : c.size k ≤ 20 := by
  have q := Con.task_ok o h
  have := size_le q.2.2.2
  have h2 := q.2.2.1
  show sizeG (c.groups k) ≤ 20
  omega
theorem nodup_len {l : List Nat} {L : Nat} (hn : l.Nodup) (hl : ∀ g ∈ l, g < L) : l.length ≤ L := by
  have hp : (l ++ (List.range L).filter fun g => decide (g ∉ l)).Perm (List.range L) := by
    refine (List.perm_ext_iff_of_nodup ?_ List.nodup_range).mpr fun g => ?_
    · refine List.nodup_append.mpr ⟨hn, List.nodup_range.filter _, fun a ha b hb z => ?_⟩
      subst z
      exact of_decide_eq_true (List.mem_filter.mp hb).2 ha
    · rw [List.mem_append, List.mem_filter, List.mem_range, decide_eq_true_eq]
      constructor
      · rintro (h | h)
        · exact hl g h
        · exact h.1
      · intro h
        by_cases hm : g ∈ l
        · exact .inl hm
        · exact .inr ⟨h, hm⟩
  have h1 := hp.length_eq
  rw [List.length_append, List.length_range] at h1
  omega

section
variable [Tbs] {P : Program} {w : World} {K : PySem.W.Frag} {mg : Str → Option Value} {base : Heap}
abbrev s_group_states : Stmt := top 45
abbrev N_group_states : List Str := ["contest", "tries", "table", "number", "found", "begin", "many", "points", "trial"]
abbrev P_group_states : List Str := ["contest", "tries", "table", "number"]
theorem sc_group_states : FnScope N_group_states P_group_states (defScope s_group_states) := ⟨rfl, rfl, rfl, by decide +kernel, rfl, by decide +kernel, by decide +kernel⟩

def R_group_states (ds : List D) (r : List D) : Prop := ∃ (c : Con) (ts : List Try) (kvs : List (List Key × V)) (tb : Nat → Nat → Option Bool) (n : Nat), ds = [c.d, trsD ts, .tab kvs, .int n] ∧ c.Ok ∧ TriesOk c ts ∧ TabOk kvs tb ∧ n < ts.length ∧ r = (gSts (gsOf c ts n) (tb n)).map stD
abbrev sp_group_states (K : PySem.W.Frag) : Sp := spF K R_group_states
theorem ok_group_states {f : Addr} {fd : FuncData} (F : Fun K "group_states" "group_states" s_group_states f fd) (T : Tx K mg) (d_state_of : Dk P w K mg base 1 "state_of" P_state_of (sp_state_of K)) : FnOk P w K mg base CX0 2 f fd P_group_states (sp_group_states K) := by
  refine F.ok sc_group_states (fun vs H Q E h => ?_) (fun cdv A outer s H vs Q E hr h => ?_)
  · obtain ⟨G, ds, r, e, ra, ⟨c, ts, kvs, tb, n, rfl, oc, ot, otb, hn, rfl⟩, q⟩ := h
    exact ra.len
  · obtain ⟨G, ds, r, e, ra, ⟨c, ts, kvs, tb, n, rfl, oc, ot, otb, hn, rfl⟩, q⟩ := h
    obtain ⟨v0, v1, v2, v3, rfl, r0, r1, r2, r3⟩ := ra.four
    refine ⟨_, (pss_cons (ps_set (i := 4) sc_group_states.nd rfl (by first | exact Or.inl rfl | exact Or.inr rfl) (pe_lst pa_nil))
    (pss_cons (ps_set (i := 5) sc_group_states.nd rfl (by first | exact Or.inl rfl | exact Or.inr rfl) pe_int)
    (pss_cons (ps_for PassesOwn.never rfl (pi_seqK K rfl (pe_ix (ix_seqK K rfl) (pe_ix (ix_seqK K rfl) (pe_ix (ix_seqK K rfl) (pv 0) pe_int (fun _ _ => rfl)) (pe_ix (ix_seqK K rfl) (pe_ix (ix_seqK K rfl) (pv 1) (pv 3) (fun _ _ => rfl)) pe_int (fun _ _ => rfl)) (fun _ _ => rfl)) pe_int (fun _ _ => rfl))) (pg_tup rfl (pgs_cons (pg_name (i := 6) sc_group_states.nd rfl (by first | exact Or.inl rfl | exact Or.inr rfl)) (pgs_cons (pg_name (i := 7) sc_group_states.nd rfl (by first | exact Or.inl rfl | exact Or.inr rfl)) pgs_nil))) (pss_cons (ps_expr (pe_bm PySem.F.plainAttrs_list PySem.F.slot_list_append PySem.F.type_list_append mt_append (pv 4) (pa_cons (pe_fn d_state_of (hr.mono (by decide)) (by rfl) (pa_cons (pe_lc (own := [("trial", 8)]) (g := gName 8) (tt := tYes) rfl sc_group_states.nd (pi_range2 (by rfl) T.n_range (pa_cons (pv 5) (pa_cons (pe_op (op_addK K rfl) (pv 5) (pv 6)) pa_nil))) (blkOk_by (own := [("trial", 8)]) (N := N_group_states) (sc := defScope s_group_states) (by decide +kernel)) (fun _ _ _ _ _ => (pg_name (i := 8) sc_group_states.nd rfl (by first | exact Or.inl rfl | exact Or.inr rfl))) (fun _ _ _ _ _ => pts_nil) (fun _ _ _ _ _ => (pe_dget2 (hu_of hr) (pv 2) (pe_tup (pa_cons (pv 3) (pa_cons (pv 8) pa_nil))) pe_non ⟨rfl, rfl, rfl, rfl⟩))) pa_nil)) pa_nil)))
    (pss_one (ps_set (i := 5) sc_group_states.nd rfl (by first | exact Or.inl rfl | exact Or.inr rfl) (pe_op (op_addK K rfl) (pv 5) (pv 6))))))
    (pss_one (ps_ret (pv 4)))))), ?_⟩
    try dsimp only [cxOf, Cx.nox, Cx.wish]
    have hk := try_at hn
    have ok := ot.at hn
    have hc := Con.task_at ok.task
    obtain ⟨o1, o2, o3, o4⟩ := Con.task_ok oc ok.task
    have o3 : (gsOf c ts n).length ≤ 4 := o3
    have hsz := Con.size_le20 oc ok.task
    refine q_newL e fun p H1 hp gp s1 hx => ?_
    refine q_asgC ?_
    refine q_for (n := (gsOf c ts n).length) (js := [6, 7]) (E := fun i => [.int (grp (gsOf c ts n) i).1, .int (grp (gsOf c ts n) i).2]) s1
      (i_seqT' (List.length_map (f := gD)) (e_ix (d1 := tkD (c.task (tryAt ts n).2.1)) (e_ix (d1 := .tup (c.tasks.map tkD)) (i := ((tryAt ts n).2.1 : Nat)) (e_ix (d1 := c.d) (by walk_at "ev") e_int rfl)
        (e_ix (d1 := trD (tryAt ts n)) (e_ix (d1 := trsD ts) (i := n) (by walk_at "ev") (e_var rfl (r3.flat_any rfl)) (at_mapL hk)) e_int rfl) (at_mapT hc)) e_int rfl))
      (fun i hi => by rw [nth_map (grp_at hi)]; exact g_two)
      (fun i σ' G' H' => G' p = none ∧ (∃ xs, H' p = some (.lst xs) ∧ RpA K G' xs (((List.range i).map (gSt (gsOf c ts n) (tb n))).map stD)) ∧ ∃ w6 w7 w8, σ' = [some v0, some v1, some v2, some v3, some (.ref p), some (.int (pre (gsOf c ts n) i)), w6, w7, w8])
      (fun G3 H3 s3 => ⟨(s3.keep gp hx).1, ⟨_, (s3.keep gp hx).2, .nil⟩, none, none, none, rfl⟩) ?_ ?_
    · rintro Gw ew i hi σ' G' H' S' ew' ⟨g', ⟨xs, x', rx⟩, w6, w7, w8, rfl⟩ G3 H3 us s3 ru
      obtain ⟨a, b, rfl, ra, rb⟩ := ru.two
      cases ra
      have e3 : Ex G G3 := ew.trans (ew'.trans s3.g)
      have q2 := r2.ex e3
      have q3 : Rp K G3 v3 (.int n) := r3.flat_any rfl
      obtain ⟨g3, x3⟩ := s3.keep g' x'
      have hb2 := pre_mono (gs := gsOf c ts n) (a := i + 1) (b := (gsOf c ts n).length) (by omega) (Nat.le_refl _)
      rw [pre_full] at hb2
      have hb3 := pre_succ hi
      have hsz' : sizeG (gsOf c ts n) ≤ 20 := hsz
      refine q_app (d := stD (gSt (gsOf c ts n) (tb n) i)) s3.i g3 x3 rfl (e_call (a_one (EvD.eq (EvF.toD (f_lc (n := (grp (gsOf c ts n) i).1) (js := [8]) (fun k => [.int ((pre (gsOf c ts n) i : Nat) + k)]) (fun _ => true) (fun k => obD (tb n (pre (gsOf c ts n) i + k)))
          (i_rng2' (i := (pre (gsOf c ts n) i : Nat)) (j := (pre (gsOf c ts n) i : Nat) + ((grp (gsOf c ts n) i).1 : Nat)) (e_var rfl (.int _)) (e_addI (e_var rfl (.int _)) (e_var rfl (.int _))) (by omega) (by omega)) (fun _ _ => g_name) (by omega) (fun _ _ => rfl)
          (fun us h => match us, h with | [_], _ => rfl) (fun _ _ _ _ _ _ => b_yes) (fun k hk' _ G4 e4 us ru => ?_))) ?_)) ⟨(List.range (grp (gsOf c ts n) i).1).map (fun k => tb n (pre (gsOf c ts n) i + k)), rfl, rfl⟩) ?_ fun v G4 H4 s4 g4 rv => ?_
      · obtain ⟨y, rfl, ry⟩ := ru.one
        cases ry
        exact EvD.eq (e_dget2 (ks := [.inl n, .inl ((pre (gsOf c ts n) i : Nat) + (k : Int))]) (e_var rfl (q2.ex e4)) (e_tup2 (e_var rfl (q3.flat_any rfl)) (e_var rfl (.int _))) rfl e_non rfl (otb.scal n (pre (gsOf c ts n) i + k))) (otb.get n (pre (gsOf c ts n) i + k))
      · rw [pick_all, List.map_map]
        rfl
      · have := rx.len
        rw [List.length_map, List.length_map, List.length_range] at this
        omega
      · have S4 := (S'.trans s3).trans s4
        refine s_asg (S4.mut hp g4).i (d := .int (pre (gsOf c ts n) (i + 1))) (EvD.int (e_addI (e_var rfl (.int _)) (e_var rfl (.int _))) (by omega)) fun v5 G5 H5 s5 r5 => ?_
        cases r5
        obtain ⟨g5, x5⟩ := s5.keep g4 upd_same
        refine ⟨G5, (S4.mut hp g4).trans s5, ew'.trans (s3.g.trans (s4.g.trans s5.g)), g5, ⟨_, x5, ?_⟩, _, _, _, rfl⟩
        rw [List.range_succ, List.map_append, List.map_append]
        exact (rx.ex ((s3.g.trans s4.g).trans s5.g)).snoc (rv.ex s5.g)
    · rintro σ' G' H' S' ew ⟨g', ⟨xs, x', rx⟩, w6, w7, w8, rfl⟩
      exact ⟨_, rfl, q p xs G' H' S' hp g' x' rx⟩

end

section
variable [Tbs] {P : Program} {w : World} {K : PySem.W.Frag} {mg : Str → Option Value} {base : Heap}
abbrev s_try_state : Stmt := top 46
abbrev N_try_state : List Str := ["contest", "tries", "table", "number", "states"]
abbrev P_try_state : List Str := ["contest", "tries", "table", "number"]
theorem sc_try_state : FnScope N_try_state P_try_state (defScope s_try_state) := ⟨rfl, rfl, rfl, by decide +kernel, rfl, by decide +kernel, by decide +kernel⟩

def trySt (ss : List Sta) : Sta := if Sta.failed ∈ ss then .failed else if Sta.opened ∈ ss then .opened else .passed
/-- the state of try n -/
def tSt (c : Con) (ts : List Try) (tb : Nat → Nat → Option Bool) (n : Nat) : Sta := trySt (gSts (gsOf c ts n) (tb n))
def R_try_state (ds : List D) (r : D) : Prop := ∃ (c : Con) (ts : List Try) (kvs : List (List Key × V)) (tb : Nat → Nat → Option Bool) (n : Nat), ds = [c.d, trsD ts, .tab kvs, .int n] ∧ c.Ok ∧ TriesOk c ts ∧ TabOk kvs tb ∧ n < ts.length ∧ r = stD (tSt c ts tb n)
abbrev sp_try_state (K : PySem.W.Frag) : Sp := spP K R_try_state
theorem flat_st (ss : List Sta) : (ss.map stD).all D.flat = true := by
  rw [List.all_map]
  exact List.all_eq_true.mpr fun b _ => rfl
theorem st_inj {a b : Sta} (h : a.s = b.s) : a = b := by
  cases a <;> cases b <;> first | rfl | exact absurd h (by decide +kernel)
theorem in_st (s : Sta) (ss : List Sta) : inD (stD s) (ss.map stD) = decide (s ∈ ss) := by
  unfold inD inV
  rw [List.map_map, List.any_map]
  induction ss with
  | nil => rfl
  | cons a ss ih =>
    rw [List.any_cons, ih]
    have e : ((fun y => eqV y (stD s).toV) ∘ (D.toV ∘ stD)) a = decide (s = a) := by
      show eqV (.str a.s) (.str s.s) = decide (s = a)
      show (a.s == s.s) = decide (s = a)
      by_cases h : s = a
      · subst h; simp
      · rw [decide_eq_false h]
        exact beq_eq_false_iff_ne.mpr fun z => h (st_inj z).symm
    rw [e]
    by_cases h : s = a
    · simp [h]
    · simp [h]
theorem st_eq (a b : Sta) : decide (a.s = b.s) = decide (a = b) := dec_iff ⟨st_inj, fun h => congrArg _ h⟩
theorem ok_lst {α : Type} {xs : List α} {f : α → D} (h : ∀ x ∈ xs, ∃ i : Int, f x = .int i) : D.ok (.lst (xs.map f)) = true := by
  have h1 : D.plainA (xs.map f) = true := by
    induction xs with
    | nil => rfl
    | cons x xs ih =>
      obtain ⟨i, e⟩ := h x List.mem_cons_self
      rw [List.map_cons, e]
      exact ih fun y hy => h y (List.mem_cons_of_mem _ hy)
  have h2 : PyData.canLayAll0 (D.pyA (xs.map f)) = true ∧ PyData.depthAll (D.pyA (xs.map f)) = 0 := by
    clear h1
    induction xs with
    | nil => exact ⟨rfl, rfl⟩
    | cons x xs ih =>
      obtain ⟨i, e⟩ := h x List.mem_cons_self
      obtain ⟨q1, q2⟩ := ih fun y hy => h y (List.mem_cons_of_mem _ hy)
      rw [List.map_cons, e]
      exact ⟨q1, by show max 0 (PyData.depthAll _) = 0; rw [q2]; rfl⟩
  unfold D.ok SeqAt.shaped
  rw [Bool.and_eq_true, Bool.and_eq_true]
  refine ⟨h1, h2.1, ?_⟩
  show decide (PyData.depthAll _ + 1 ≤ 64) = true
  rw [h2.2]
  rfl
theorem eqv_nil (ds : List D) : PyData.eqv (D.py (.lst ds)) (D.py (.lst [])) = ds.isEmpty := by cases ds <;> rfl
theorem try_failed (ss : List Sta) : trySt ss = .failed ↔ Sta.failed ∈ ss := by
  unfold trySt
  by_cases h : Sta.failed ∈ ss
  · simp [h]
  · rw [if_neg h]
    refine ⟨fun z => ?_, fun z => absurd z h⟩
    split at z <;> cases z
theorem try_passed (ss : List Sta) : decide (trySt ss = .passed) = ss.all fun s => decide (s = .passed) := by
  rw [Bool.eq_iff_iff, decide_eq_true_eq, List.all_eq_true]
  unfold trySt
  constructor
  · intro z s hs
    refine decide_eq_true ?_
    by_cases h : Sta.failed ∈ ss
    · rw [if_pos h] at z; cases z
    · rw [if_neg h] at z
      by_cases h2 : Sta.opened ∈ ss
      · rw [if_pos h2] at z; cases z
      · cases s with
        | passed => rfl
        | failed => exact absurd hs h
        | opened => exact absurd hs h2
  · intro z
    rw [if_neg (fun h => absurd (of_decide_eq_true (z _ h)) (by decide)), if_neg (fun h => absurd (of_decide_eq_true (z _ h)) (by decide))]
theorem ok_try_state {f : Addr} {fd : FuncData} (F : Fun K "try_state" "try_state" s_try_state f fd) (T : Tx K mg) (d_group_states : Dk P w K mg base 2 "group_states" P_group_states (sp_group_states K)) : FnOk P w K mg base CX0 3 f fd P_try_state (sp_try_state K) := by
  refine F.ok sc_try_state (fun vs H Q E h => ?_) (fun cdv A outer s H vs Q E hr h => ?_)
  · obtain ⟨G, ds, r, e, ra, ⟨c, ts, kvs, tb, n, rfl, oc, ot, otb, hn, rfl⟩, q⟩ := h
    exact ra.len
  · obtain ⟨G, ds, r, e, ra, ⟨c, ts, kvs, tb, n, rfl, oc, ot, otb, hn, rfl⟩, q⟩ := h
    obtain ⟨v0, v1, v2, v3, rfl, r0, r1, r2, r3⟩ := ra.four
    refine ⟨_, (pss_cons (ps_set (i := 4) sc_try_state.nd rfl (by first | exact Or.inl rfl | exact Or.inr rfl) (pe_fn d_group_states (hr.mono (by decide)) (by rfl) (pa_cons (pv 0) (pa_cons (pv 1) (pa_cons (pv 2) (pa_cons (pv 3) pa_nil))))))
    (pss_cons (ps_if (pt_cmpR (op_inK K rfl) (pe_gS rfl T.c_FAILED) (pv 4) (by rfl)) (pss_one (ps_ret (pe_gS rfl T.c_FAILED))) pss_nil)
    (pss_one (ps_ret (pe_ifExp (pt_cmpR (op_inK K rfl) (pe_gS rfl T.c_OPEN) (pv 4) (by rfl)) (pe_gS rfl T.c_OPEN) (pe_gS rfl T.c_PASSED)))))), ?_⟩
    try dsimp only [cxOf, Cx.nox, Cx.wish]
    refine q_asg e (d := .lst ((gSts (gsOf c ts n) (tb n)).map stD)) (EvF.toD (f_call (K := K) (a_cons (by walk_at "ev") (a_cons (by walk_at "ev") (a_cons (by walk_at "ev") (a_one (by walk_at "ev"))))) ⟨c, ts, kvs, tb, n, rfl, oc, ot, otb, hn, rfl⟩)) fun v G1 H1 s1 rv => ?_
    show tSeq _ _ _ [some v0, some v1, some v2, some v3, some v] _
    have q : ∀ (v : V) (G' H' : Hp), Step G H G' H' → Rp K G' v (stD (trySt (gSts (gsOf c ts n) (tb n)))) → Q v H' := q
    generalize gSts (gsOf c ts n) (tb n) = ss at *
    refine q_when (b := decide (Sta.failed ∈ ss)) s1.i (b_test (EvD.bl (e_in (d1 := stD .failed) (d2 := .lst (ss.map stD)) e_str (by walk_at "ev") rfl rfl (flat_st ss)) (in_st .failed ss))) (fun hb G2 H2 s2 => ?_) (fun hb G2 H2 s2 => ?_)
    · refine s_ret (d := stD (trySt ss)) s2.i ?_ fun v G3 H3 s3 r3 => q v G3 H3 ((s1.trans s2).trans s3) r3
      unfold trySt
      rw [if_pos (of_decide_eq_true hb)]
      exact e_str
    · have rv := rv.ex s2.g
      refine s_ret (d := stD (trySt ss)) s2.i ?_ fun v G3 H3 s3 r3 => q v G3 H3 ((s1.trans s2).trans s3) r3
      unfold trySt
      rw [if_neg (of_decide_eq_false hb)]
      refine e_if (a := decide (Sta.opened ∈ ss)) (b_test (EvD.bl (e_in (d1 := stD .opened) (d2 := .lst (ss.map stD)) e_str (by walk_at "ev") rfl rfl (flat_st ss)) (in_st .opened ss))) (fun h => ?_) (fun h => ?_)
      · rw [if_pos (of_decide_eq_true h)]
        exact e_str
      · rw [if_neg (of_decide_eq_false h)]
        exact e_str

end

section
variable [Tbs] {P : Program} {w : World} {K : PySem.W.Frag} {mg : Str → Option Value} {base : Heap}
abbrev s_numbers_of : Stmt := top 47
abbrev N_numbers_of : List Str := ["contest", "tries", "team", "task", "until", "k", "one"]
abbrev P_numbers_of : List Str := ["contest", "tries", "team", "task", "until"]
theorem sc_numbers_of : FnScope N_numbers_of P_numbers_of (defScope s_numbers_of) := ⟨rfl, rfl, rfl, by decide +kernel, rfl, by decide +kernel, by decide +kernel⟩

/-- the tries of a team at a task ahead of a time -/
def isOf (team task until' : Nat) (t : Try) : Bool := decide (t.1 = team ∧ t.2.1 = task) && decide (t.2.2 < until')
def numsOf (ts : List Try) (team task until' : Nat) : List Nat := (List.range ts.length).filter fun k => isOf team task until' (tryAt ts k)
def natD (n : Nat) : D := .int n
def R_numbers_of (ds : List D) (r : List D) : Prop := ∃ (c : Con) (ts : List Try) (team task until' : Nat), ds = [c.d, trsD ts, .int team, .int task, .int until'] ∧ ts.length ≤ 200 ∧ r = (numsOf ts team task until').map natD
abbrev sp_numbers_of (K : PySem.W.Frag) : Sp := spF K R_numbers_of
theorem eqv2 (a b c d : Nat) : PyData.eqv (D.py (.tup [.int a, .int b])) (D.py (.tup [.int c, .int d])) = decide (a = c ∧ b = d) := by
  show (((a : Int) == (c : Int)) && (((b : Int) == (d : Int)) && true)) = _
  by_cases h1 : a = c
  · by_cases h2 : b = d
    · simp [h1, h2]
    · simp [h1, h2]
      intro z; exact h2 (Int.ofNat.inj z)
  · simp [h1]
    intro z; exact absurd (Int.ofNat.inj z) h1
theorem e_pair {σ : L2.St} {G : Hp} {te : TE} {t : Try} (h : EvD K te σ G (trD t)) : EvD K (tSl (rSlA K) te tNoPart (tPart (tC (.int 2)))) σ G (.tup [.int t.1, .int t.2.1]) :=
  e_slT h p_none (p_some (e_int (K := K))) (fun z => by have h : (2 : Nat) = 3 := z.2; omega) rfl
theorem ok_numbers_of {f : Addr} {fd : FuncData} (F : Fun K "numbers_of" "numbers_of" s_numbers_of f fd) (T : Tx K mg) : FnOk P w K mg base CX0 1 f fd P_numbers_of (sp_numbers_of K) := by
  refine F.ok sc_numbers_of (fun vs H Q E h => ?_) (fun cdv A outer s H vs Q E hr h => ?_)
  · obtain ⟨G, ds, r, e, ra, ⟨c, ts, team, task, unt, rfl, hts, rfl⟩, q⟩ := h
    exact ra.len
  · obtain ⟨G, ds, r, e, ra, ⟨c, ts, team, task, unt, rfl, hts, rfl⟩, q⟩ := h
    obtain ⟨v0, v1, v2, v3, v4, rfl, r0, r1, r2, r3, r4⟩ := ra.five
    refine ⟨_, (pss_one (ps_ret (pe_lc (own := [("k", 5), ("one", 6)]) (g := gTup K 2 (gCons (gName 5) (gCons (gName 6) gNil))) (tt := _) rfl sc_numbers_of.nd (pi_enK K rfl (by rfl) T.n_enumerate (pa_cons (pv 1) pa_nil)) (blkOk_by (own := [("k", 5), ("one", 6)]) (N := N_numbers_of) (sc := defScope s_numbers_of) (by decide +kernel)) (fun _ _ _ _ _ => (pg_tup rfl (pgs_cons (pg_name (i := 5) sc_numbers_of.nd rfl (by first | exact Or.inl rfl | exact Or.inr rfl)) (pgs_cons (pg_name (i := 6) sc_numbers_of.nd rfl (by first | exact Or.inl rfl | exact Or.inr rfl)) pgs_nil)))) (fun _ _ _ _ _ => (pts_one (PW.pt (pw_and (pt_cmpR (op_eqK K rfl hr.units) (pe_slice (sl_seqK K rfl) (pv 6) po_none (po_some pe_int)) (pe_tup (pa_cons (pv 2) (pa_cons (pv 3) pa_nil))) (nomark _)) (pw_and1 (pt_cmpR op_lt (pe_ix (ix_seqK K rfl) (pv 6) pe_int (fun _ _ => rfl)) (pv 4) (nomark _))))))) (fun _ _ _ _ _ => (pv 5))))), ?_⟩
    try dsimp only [cxOf, Cx.nox, Cx.wish]
    refine s_retF e (ds := (numsOf ts team task unt).map natD) ?_ q
    unfold numsOf
    refine f_lc (n := ts.length) (js := [5, 6]) (fun i => [.int i, nth (ts.map trD) i]) (fun k => isOf team task unt (tryAt ts k)) natD (i_enL' (List.length_map _) (by walk_at "ev")) (fun _ _ => g_two) (by omega) (fun _ _ => rfl)
      (fun us h => match us, h with | [_, _], _ => rfl) (fun i hi G1 e1 us ru => ?_) (fun i hi _ G1 e1 us ru => ?_)
    · rw [nth_map (try_at hi)] at ru
      obtain ⟨a, b, rfl, ra, rb⟩ := ru.two
      have q2 : Rp K G1 v2 (.int team) := r2.flat_any rfl
      have q3 : Rp K G1 v3 (.int task) := r3.flat_any rfl
      have q4 : Rp K G1 v4 (.int unt) := r4.flat_any rfl
      refine b_and (b_test (EvD.bl (e_eqD (e_pair (e_var rfl rb)) (e_tup2 (e_var rfl q2) (e_var rfl q3)) rfl rfl) (eqv2 _ _ _ _))) fun _ => b_test (EvD.bl (e_lt (e_ix (d1 := trD (tryAt ts i)) (e_var rfl rb) e_int rfl) (e_var rfl q4)) (dec_iff Int.ofNat_lt))
    · obtain ⟨a, b, rfl, ra, rb⟩ := ru.two
      exact e_var rfl ra

end

section
variable [Tbs] {P : Program} {w : World} {K : PySem.W.Frag} {mg : Str → Option Value} {base : Heap}
/-- what the verdicts tell of a trial -/
def tbOf (vs : List Ver) (n t : Nat) : Option Bool := (vs.find? fun v => decide (v.1 = n ∧ v.2.1 = t)).map fun v => v.2.2
theorem verT_eq {vs : List Ver} (h : (vs.map fun v => (v.1, v.2.1)).Nodup) : verT vs = vs.map fun v => (verK v, V.bl v.2.2) := by
  unfold verT
  have key : ∀ (ws us : List Ver), (ws ++ us).map (fun v => (v.1, v.2.1)) = (ws ++ us).map (fun v => (v.1, v.2.1)) → ((ws ++ us).map fun v => (v.1, v.2.1)).Nodup → mergeT (ws.map fun v => (verK v, V.bl v.2.2)) (us.map fun v => (verK v, V.bl v.2.2)) = (ws ++ us).map fun v => (verK v, V.bl v.2.2) := by
    intro ws us
    induction us generalizing ws with
    | nil => intro _ _; rw [List.append_nil]; rfl
    | cons u us ih =>
      intro _ hn
      have hnone : valV (ws.map fun v => (verK v, V.bl v.2.2)) (verK u) = none := by
        refine valV_map_none fun x hx hxe => ?_
        rw [List.map_append, List.map_cons] at hn
        have h1 := (List.nodup_append.mp hn).2.2 (x.1, x.2.1) (List.mem_map.mpr ⟨x, hx, rfl⟩) (u.1, u.2.1) List.mem_cons_self
        exact h1 (verK_inj hxe)
      show mergeT (putK (ws.map fun v => (verK v, V.bl v.2.2)) (verK u) (.bl u.2.2)) (us.map fun v => (verK v, V.bl v.2.2)) = _
      rw [putK_new _ hnone]
      have e : (ws.map fun v => (verK v, V.bl v.2.2)) ++ [(verK u, V.bl u.2.2)] = (ws ++ [u]).map fun v => (verK v, V.bl v.2.2) := by rw [List.map_append]; rfl
      rw [e, ih (ws ++ [u]) rfl (by rw [List.append_assoc]; exact hn), List.append_assoc]
      rfl
  exact key [] vs rfl h
theorem valV_ver (vs : List Ver) (n t : Nat) : valV (vs.map fun v => (verK v, V.bl v.2.2)) [.inl n, .inl t] = (tbOf vs n t).map V.bl := by
  unfold tbOf
  induction vs with
  | nil => rfl
  | cons v vs ih =>
    rw [List.map_cons, List.find?_cons]
    by_cases h : v.1 = n ∧ v.2.1 = t
    · rw [valV_pos (by show verK v = _; rw [← h.1, ← h.2]; rfl), decide_eq_true h]
      rfl
    · rw [valV_neg (by
        intro z
        have z' : verK v = verK (n, t, true) := z
        have := verK_inj z'
        exact h ⟨congrArg Prod.fst this, congrArg Prod.snd this⟩), ih, decide_eq_false h]
theorem tab_ver {vs : List Ver} (h : (vs.map fun v => (v.1, v.2.1)).Nodup) : TabOk (verT vs) (tbOf vs) := ⟨fun n t => by rw [verT_eq h]; exact valV_ver vs n t⟩

end

section
variable [Tbs] {P : Program} {w : World} {K : PySem.W.Frag} {mg : Str → Option Value} {base : Heap}
abbrev s__law_dice : Stmt := top 75
abbrev N__law_dice : List Str := ["_law_script", "_law_k", "_law_found", "_law_cell"]
abbrev P__law_dice : List Str := ["_law_script", "_law_k"]
theorem sc__law_dice : FnScope N__law_dice P__law_dice (defScope s__law_dice) := ⟨rfl, rfl, rfl, by decide +kernel, rfl, by decide +kernel, by decide +kernel⟩

def sp__law_dice (K : PySem.W.Frag) : Sp := fun vs H Q _ => ∃ (a : Addr) (ns : List Int), vs = [.ref a, .int 0] ∧ SqL K H a (ns.map V.int) ∧ ns.length ≤ 63 ∧
  ∀ p ms H', H p = none → Ex H H' → H' p = some (.lst (ms.map V.int)) → DOk ms → Q (.ref p) H'
theorem ok__law_dice {f : Addr} {fd : FuncData} (F : Fun K "_law_dice" "_law_dice" s__law_dice f fd) (T : Tx K mg) : FnOk P w K mg base CX0 1 f fd P__law_dice (sp__law_dice K) := by
  refine F.ok sc__law_dice (fun vs H Q E h => ?_) (fun cdv A outer s H vs Q E hr h => ?_)
  · obtain ⟨a, ns, rfl, _⟩ := h
    rfl
  · obtain ⟨a, ns, rfl, hs, hl, q⟩ := h
    refine ⟨_, (pss_cons (ps_set (i := 2) sc__law_dice.nd rfl (by first | exact Or.inl rfl | exact Or.inr rfl) (pv 1))
    (pss_cons (ps_for PassesOwn.never rfl (pi_seqK K rfl (pv 0)) (pg_name (i := 3) sc__law_dice.nd rfl (by first | exact Or.inl rfl | exact Or.inr rfl)) (pss_one (ps_set (i := 2) sc__law_dice.nd rfl (by first | exact Or.inl rfl | exact Or.inr rfl) (pe_op op_mod (pe_op (op_addK K rfl) (pe_op op_mulA (pv 2) pe_int) (pe_callB call_abs (by rfl) T.n_abs (by decide +kernel) (pa_cons (pv 3) pa_nil))) pe_int))))
    (pss_one (ps_ret (pe_op (op_addK K rfl) (pe_lst (pa_cons (pv 2) (pa_cons pe_int pa_nil))) (pe_lc (own := [("_law_cell", 3)]) (g := gName 3) (tt := _) rfl sc__law_dice.nd (pi_seqK K rfl (pv 0)) (blkOk_by (own := [("_law_cell", 3)]) (N := N__law_dice) (sc := defScope s__law_dice) (by decide +kernel)) (fun _ _ _ _ _ => (pg_name (i := 3) sc__law_dice.nd rfl (by first | exact Or.inl rfl | exact Or.inr rfl))) (fun _ _ _ _ _ => (pts_one (pt_cmpR op_ge (pv 3) (pe_op op_pow pe_int pe_int) (nomark _)))) (fun _ _ _ _ _ => (pv 3)))))))), ?_⟩
    try dsimp only [cxOf, Cx.nox, Cx.wish]
    refine q_asg (K := K) (d := .int 0) (Ex.refl H) (e_var rfl (.int _)) fun v G1 H1 s1 r1 => ?_
    cases r1
    refine q_for (K := K) (n := ns.length) (js := [3]) (E := fun i => [nth (ns.map D.int) i]) s1 (i_script (q := a) rfl (ex_l s1.g hs)) (fun i hi => g_name)
      (fun i σ' G' H' => ∃ (z : Int) (w9 : Option V), σ' = [some (.ref a), some (.int 0), some (.int z), w9] ∧ 0 ≤ z ∧ z < 2147483647) (fun G2 H2 s2 => ⟨0, none, rfl, by decide, by decide⟩) ?_ ?_
    · rintro Gw ew i hi σ' G' H' S' ew' ⟨z, w', rfl, h0, h1⟩ G2 H2 us s2 ru
      rw [nth_map (List.getElem?_eq_getElem hi)] at ru
      obtain ⟨b, rfl, rb⟩ := ru.one
      cases rb
      refine s_asg s2.i (d := .int ((z * 31 + (if ns[i] < 0 then -ns[i] else ns[i])) % 2147483647)) (e_mod (e_addI (e_mulI (e_var rfl (.int _)) e_int (.inl ⟨by omega, by omega⟩)) (e_abs (e_var rfl (.int _)))) e_int (by decide)) fun v3 G3 H3 s3 r3 => ?_
      cases r3
      exact ⟨G3, (S'.trans s2).trans s3, ew'.trans (s2.g.trans s3.g), _, _, rfl, Int.emod_nonneg _ (by decide), Int.emod_lt_of_pos _ (by decide)⟩
    · rintro σ' G' H' S' ew ⟨z, w', rfl, h0, h1⟩
      have hs' := ex_l S'.g hs
      refine s_retF (K := K) (ds := (z :: 0 :: ns.filter fun n => decide ((10 : Int) ^ (18 : Int).toNat ≤ n)).map D.int) S'.i (EvF.eq (f_cat (ds := [.int z, .int 0]) (EvF.toD (f_lst (a_cons (e_var rfl (.int _)) (a_one e_int)) (by show 2 ≤ 100000; decide)))
        (EvF.toD (f_lcm (xs := ns) (Y := nth (ns.map D.int)) (js := [3]) (fun _ n => [.int n]) (fun n => decide ((10 : Int) ^ (18 : Int).toNat ≤ n)) D.int (i_script (q := a) rfl hs') (fun i x hx => by rw [nth_map hx]; exact g_name) (by omega) (fun _ _ _ => rfl)
          (fun us h => match us, h with | [_], _ => rfl) (fun i x hx G2 e2 us ru => ?_) (fun i x hx _ G2 e2 us ru => ?_))) ?_) rfl) fun p xs G2 H2 s2 h2 h3 h4 r2 => ?_
      · obtain ⟨y, rfl, ry⟩ := ru.one
        exact b_test (e_ge (e_var rfl ry) (e_pow e_int e_int ⟨by decide, by decide, by decide⟩))
      · obtain ⟨y, rfl, ry⟩ := ru.one
        exact e_var rfl ry
      · have := List.length_filter_le (fun n => decide ((10 : Int) ^ (18 : Int).toNat ≤ n)) ns
        rw [List.length_map]
        show 2 + _ ≤ _
        omega
      · have hxs := r2.ints
        subst hxs
        refine q p _ H2 (S'.pre h2) (S'.h.trans s2.h) h4 ⟨z, 0, _, rfl, ⟨h0, h1⟩, Int.le_refl _, fun x hx => ?_, ?_⟩
        · have := of_decide_eq_true (List.mem_filter.mp hx).2
          have h18 : (0 : Int) ≤ (10 : Int) ^ (18 : Int).toNat := by decide
          omega
        · have := List.length_filter_le (fun n => decide ((10 : Int) ^ (18 : Int).toNat ≤ n)) ns
          omega

end

section
variable [Tbs] {P : Program} {w : World} {K : PySem.W.Frag} {mg : Str → Option Value} {base : Heap}
abbrev s__law_off : Stmt := top 76
abbrev N__law_off : List Str := ["_law_d", "_law_most", "_law_found"]
abbrev P__law_off : List Str := ["_law_d", "_law_most"]
theorem sc__law_off : FnScope N__law_off P__law_off (defScope s__law_off) := ⟨rfl, rfl, rfl, by decide +kernel, rfl, by decide +kernel, by decide +kernel⟩

abbrev sp__law_off (K : PySem.W.Frag) : Sp := spR K Pre_off R_off
theorem DOk.step {a b : Int} {rest : List Int} (a0 : 0 ≤ a ∧ a < 2147483647) (b0 : 0 ≤ b) (r0 : ∀ x ∈ rest, 0 ≤ x) (rl : rest.length ≤ 63) : DOk (a :: b :: rest) := ⟨a, b, rest, rfl, a0, b0, r0, rl⟩
theorem ok__law_off {f : Addr} {fd : FuncData} (F : Fun K "_law_off" "_law_off" s__law_off f fd) (T : Tx K mg) : FnOk P w K mg base CX0 1 f fd P__law_off (sp__law_off K) := by
  refine F.ok sc__law_off (fun vs H Q E h => ?_) (fun cdv A outer s H vs Q E hr h => ?_)
  · obtain ⟨p, ws, G, ds, rfl, e, g, dc, ra, ⟨m, rfl, _⟩, _⟩ := h
    have := ra.len
    show _ + 1 = 2
    rw [this]
    rfl
  · obtain ⟨p, ws, G, ds, rfl, e, g, ⟨ms, hm, a, b, rest, rfl, a0, b0, r0, rl⟩, ra, ⟨m, rfl, m0, m1⟩, q⟩ := h
    obtain ⟨v1, rfl, rv⟩ := ra.one
    cases rv
    refine ⟨_, (Evl.pss_cut (ps_if (PW.pt (pw_and (pt_cmpR (op_eqK K rfl hr.units) (pe_ix (ix_seqK K rfl) (pv 0) pe_int (fun _ _ => rfl)) pe_int (nomark _)) (pw_and1 (pt_cmpR op_gt (pe_callB (call_lenK K rfl) (by rfl) T.n_len (by decide +kernel) (pa_cons (pv 0) pa_nil)) pe_int (nomark _))))) (pss_one (ps_asg (pe_bm PySem.F.plainAttrs_list PySem.F.slot_list_pop PySem.F.type_list_pop mt_popAt (pv 0) (pa_cons pe_int pa_nil)) (pg_sub (pv 0) pe_int set_list))) pss_nil)
    (pss_cons (ps_if (pt_cmpR op_gt (pe_ix (ix_seqK K rfl) (pv 0) pe_int (fun _ _ => rfl)) pe_int (nomark _)) (pss_cons (ps_set (i := 2) sc__law_off.nd rfl (by first | exact Or.inl rfl | exact Or.inr rfl) (pe_op op_mod (pe_ix (ix_seqK K rfl) (pv 0) pe_int (fun _ _ => rfl)) (pv 1)))
    (pss_cons (ps_asg (pe_op op_fdiv (pe_ix (ix_seqK K rfl) (pv 0) pe_int (fun _ _ => rfl)) (pv 1)) (pg_sub (pv 0) pe_int set_list))
    (pss_one (ps_ret (pv 2))))) pss_nil)
    (pss_cons (ps_asg (pe_op op_mod (pe_op (op_addK K rfl) (pe_op op_mulA (pe_ix (ix_seqK K rfl) (pv 0) pe_int (fun _ _ => rfl)) pe_int) pe_int) pe_int) (pg_sub (pv 0) pe_int set_list))
    (pss_one (ps_ret (pe_op op_mod (pe_op op_fdiv (pe_ix (ix_seqK K rfl) (pv 0) pe_int (fun _ _ => rfl)) pe_int) (pv 1))))))), ?_⟩
    try dsimp only [cxOf, Cx.nox, Cx.wish]
    have rp : ∀ (G : Hp) (ms : List Int), Rp K (upd G p (.lst (ms.map V.int))) (.ref p) (.lst (ms.map D.int)) := fun G ms => .lst upd_same RpA.of_ints
    refine Evl.q_cut (M := fun σ' H1 => σ' = [some (.ref p), some (.int m), none] ∧ ∃ (b' : Int) (rest' : List Int) (G1 : Hp), Step G (hide p H) G1 H1 ∧ G1 p = none ∧ H1 p = some (.lst ((a :: b' :: rest').map V.int)) ∧ 0 ≤ b' ∧ (∀ x ∈ rest', 0 ≤ x) ∧ rest'.length ≤ 63) ?_ ?_
    · refine s_ifO (b := decide (b = 0) && decide ((2 : Int) < ((a :: b :: rest).length : Nat))) e g hm (b_and (b_test (e_eq (d1 := .int b) (e_ix (d1 := .lst ((a :: b :: rest).map D.int)) (e_var rfl (rp _ _)) e_int (at_mapL (k := 1) rfl)) e_int rfl)) fun _ =>
        b_test (e_gt (e_len (d := .lst ((a :: b :: rest).map D.int)) (e_var rfl (rp _ _)) (congrArg some (List.length_map _))) e_int)) (fun hb G1 H1 s1 g1 x1 => ?_) (fun hb G1 H1 s1 g1 x1 => ?_)
      · obtain ⟨hb0, hb1⟩ := (Bool.and_eq_true _ _).mp hb
        have hl : 2 < (a :: b :: rest).length := by have := of_decide_eq_true hb1; omega
        cases rest with
        | nil => exact absurd hl (by show ¬ 2 < 2; omega)
        | cons c rest =>
          have hi2 : ixN ((a :: b :: c :: rest).map V.int).length 2 = some 2 := Evl.ixN_nat (j := 2) (by rw [List.length_map]; exact hl)
          refine ⟨_, rfl, .inl ⟨rfl, _, .of x1⟩, p, _, 2, 2, .int c, rfl, rfl, x1, by decide, by decide, (ixN_seq hi2).1, rfl, _, rfl, p, _, 1, 1, rfl, rfl, upd_same, Evl.ixN_nat (j := 1) (by simp), ?_⟩
          rw [upd_upd]
          refine ⟨rfl, c, rest, G1, ((s1.toR g ⟨_, hm, DOk.step a0 b0 r0 rl⟩).1).mut hide_p g1, g1, upd_same, r0 c List.mem_cons_self, fun x hx => r0 x (List.mem_cons_of_mem _ hx), ?_⟩
          rw [List.length_cons] at rl
          omega
      · exact ⟨rfl, b, rest, G1, (s1.toR g ⟨_, hm, DOk.step a0 b0 r0 rl⟩).1, g1, x1, b0, r0, rl⟩
    · rintro σ' H1 ⟨rfl, b', rest', G1, S1, g1, x1, hb0, hr0, hrl⟩
      have dc1 : DOk (a :: b' :: rest') := DOk.step a0 hb0 hr0 hrl
      refine q_whenO (b := decide ((0 : Int) < b')) S1.i g1 x1 (b_test (e_gt (i := b') (e_ix (d1 := .lst ((a :: b' :: rest').map D.int)) (e_var rfl (rp _ _)) e_int (at_mapL (k := 1) rfl)) e_int)) (fun hb G2 H2 s2 g2 x2 => ?_) (fun hb G2 H2 s2 g2 x2 => ?_)
      · have S2 := S1.transR (s2.toR g1 ⟨_, x1, dc1⟩).1 ⟨_, x1, dc1⟩
        refine q_asgO (K := K) (d := .int (b' % (m : Int))) s2.i g2 x2 (e_mod (e_ix (d1 := .lst ((a :: b' :: rest').map D.int)) (e_var rfl (rp _ _)) e_int (at_mapL (k := 1) rfl)) (e_var rfl (.int _)) (by omega)) rfl fun v G3 H3 s3 g3 x3 r3 => ?_
        cases r3
        have S3 := S2.transR (s3.toR g2 ⟨_, x2, dc1⟩).1 ⟨_, x2, dc1⟩
        refine q_setO (K := K) (j := 1) (d := .int (b' / (m : Int))) s3.i g3 x3 rfl (e_fdiv (e_ix (d1 := .lst ((a :: b' :: rest').map D.int)) (e_var rfl (rp _ _)) e_int (at_mapL (k := 1) rfl)) (e_var rfl (.int _)) ⟨by omega, by omega⟩) rfl (by rw [List.length_map]; show 1 < _ + 2; omega) fun G4 H4 s4 g4 => ?_
        have S4 := (S3.transR (s4.toR g3 ⟨_, x3, dc1⟩).1 ⟨_, x3, dc1⟩).mut (o := .lst ((a :: (b' / (m : Int)) :: rest').map V.int)) hide_p g4
        refine ⟨_, rfl, q _ (.int (b' % (m : Int))) G4 _ S4 g4 ⟨_, upd_same, DOk.step a0 (Int.ediv_nonneg hb0 (by omega)) hr0 hrl⟩ ⟨m, rfl, (b' % (m : Int)).toNat, ?_, ?_⟩ (.int _)⟩
        · have := Int.emod_nonneg b' (show (m : Int) ≠ 0 by omega)
          exact congrArg D.int (by omega)
        · have h1 := Int.emod_nonneg b' (show (m : Int) ≠ 0 by omega)
          have h2 := Int.emod_lt_of_pos b' (show (0 : Int) < m by omega)
          omega
      · have S2 := S1.transR (s2.toR g1 ⟨_, x1, dc1⟩).1 ⟨_, x1, dc1⟩
        generalize hz : (a * 48271 + 11) % 2147483647 = z
        refine q_setO (K := K) (j := 0) (d := .int z) s2.i g2 x2 rfl (EvD.int (e_mod (e_addI (e_mulI (i := a) (e_ix (d1 := .lst ((a :: b' :: rest').map D.int)) (e_var rfl (rp _ _)) e_int (at_mapL (k := 0) rfl)) e_int (.inl ⟨by omega, by omega⟩)) e_int) e_int (by decide)) hz) rfl (by rw [List.length_map]; show 0 < _ + 2; omega) fun G3 H3 s3 g3 => ?_
        have z0 : 0 ≤ z ∧ z < 2147483647 := by
          rw [← hz]
          exact ⟨Int.emod_nonneg _ (by decide), Int.emod_lt_of_pos _ (by decide)⟩
        have S3 := (S2.transR (s3.toR g2 ⟨_, x2, dc1⟩).1 ⟨_, x2, dc1⟩).mut (o := .lst ((z :: b' :: rest').map V.int)) hide_p g3
        have dc3 : DOk (z :: b' :: rest') := DOk.step z0 hb0 hr0 hrl
        refine s_retO (K := K) (o := .lst ((z :: b' :: rest').map V.int)) (d := .int (z / 64 % (m : Int))) S3.i g3 upd_same (e_mod (e_fdiv (e_ix (d1 := .lst ((z :: b' :: rest').map D.int)) (e_var rfl (rp _ _)) e_int (at_mapL (k := 0) rfl)) e_int ⟨by decide, by decide⟩) (e_var rfl (.int _)) (by omega)) rfl fun v G4 H4 s4 g4 x4 r4 => ?_
        refine q v _ G4 H4 (S3.transR (s4.toR g3 ⟨_, upd_same, dc3⟩).1 ⟨_, upd_same, dc3⟩) g4 ⟨_, x4, dc3⟩ ⟨m, rfl, (z / 64 % (m : Int)).toNat, ?_, ?_⟩ r4
        · have := Int.emod_nonneg (z / 64) (show (m : Int) ≠ 0 by omega)
          exact congrArg D.int (by omega)
        · have h1 := Int.emod_nonneg (z / 64) (show (m : Int) ≠ 0 by omega)
          have h2 := Int.emod_lt_of_pos (z / 64) (show (0 : Int) < m by omega)
          omega

end

section
variable [Tbs] {P : Program} {w : World} {K : PySem.W.Frag} {mg : Str → Option Value} {base : Heap}
/-- data of at most n levels -/
inductive Fit : Nat → D → Prop
  | non {n : Nat} : Fit (n + 1) .non
  | bl {n : Nat} (b : Bool) : Fit (n + 1) (.bl b)
  | int {n : Nat} (i : Int) : Fit (n + 1) (.int i)
  | str {n : Nat} (s : Str) : Fit (n + 1) (.str s)
  | tup {n : Nat} {ds : List D} (hl : ds.length ≤ 1000000) (h : ∀ d ∈ ds, Fit n d) : Fit (n + 1) (.tup ds)
  | lst {n : Nat} {ds : List D} (hl : ds.length ≤ 1000000) (h : ∀ d ∈ ds, Fit n d) : Fit (n + 1) (.lst ds)

end

section
variable [Tbs] {P : Program} {w : World} {K : PySem.W.Frag} {mg : Str → Option Value} {base : Heap}

/-- data that may be compared -/
def D.low (d : D) : Bool := d.plain && d.py.canLay0 && decide (d.py.depth ≤ 32)
theorem low_lst : ∀ {ds : List D}, (∀ d ∈ ds, d.low = true) → D.plainA ds = true ∧ PyData.canLayAll0 (D.pyA ds) = true ∧ PyData.depthAll (D.pyA ds) ≤ 32
  | [], _ => ⟨rfl, rfl, Nat.zero_le _⟩
  | d :: ds, h => by
    have h1 := h d List.mem_cons_self
    obtain ⟨a, b, c⟩ := low_lst fun x hx => h x (List.mem_cons_of_mem _ hx)
    unfold D.low at h1
    rw [Bool.and_eq_true, Bool.and_eq_true, decide_eq_true_eq] at h1
    obtain ⟨⟨p1, p2⟩, p3⟩ := h1
    refine ⟨?_, ?_, ?_⟩
    · show (d.plain && D.plainA ds) = true
      rw [p1, a]; rfl
    · simp [D.pyA, PyData.canLayAll0, p2, b]
    · simp only [D.pyA, PyData.depthAll]
      omega
theorem ok_lows {ds : List D} (h : ∀ d ∈ ds, d.low = true) : (D.lst ds).ok = true := by
  obtain ⟨a, b, c⟩ := low_lst h
  unfold D.ok SeqAt.shaped
  rw [Bool.and_eq_true, Bool.and_eq_true, decide_eq_true_eq]
  refine ⟨a, ?_, ?_⟩
  · simp [D.py, PyData.canLay0, b]
  · simp only [D.py, PyData.depth]
    omega
theorem eqv_no (ds : List D) : PyData.eqv (D.lst ds).py (D.lst []).py = decide (ds = []) := by
  cases ds with
  | nil => rfl
  | cons d ds => rfl
def Pre_mixed (ds : List D) : Prop := ∃ xs, ds = [.lst xs] ∧ (∀ x ∈ xs, x.low = true) ∧ xs.length ≤ 100000
def R_mixed (ds : List D) (es : List D) : Prop := ∃ xs, ds = [.lst xs] ∧ es.Perm xs
abbrev sp__law_mixed (K : PySem.W.Frag) : Sp := spRF K Pre_mixed R_mixed
theorem perm_erase : ∀ {ds : List D} {k : Nat} {d : D}, ds[k]? = some d → ([d] ++ ds.eraseIdx k).Perm ds
  | [], k, d, h => by simp at h
  | x :: ds, 0, d, h => by
    have z := Option.some.inj h
    subst z
    exact List.Perm.refl _
  | x :: ds, k + 1, d, h => (List.Perm.swap x d _).trans (List.Perm.cons x (perm_erase (k := k) h))
end

section
variable [Tbs] {P : Program} {w : World} {K : PySem.W.Frag} {mg : Str → Option Value} {base : Heap}
abbrev s__law_contest : Stmt := top 77
abbrev N__law_contest : List Str := ["_law_d", "_law_rules", "_law_teams", "_law_end", "_law_tasks", "_law_task", "_law_groups", "_law_group", "_law_points", "_law_frozen"]
abbrev P__law_contest : List Str := ["_law_d", "_law_rules"]
theorem sc__law_contest : FnScope N__law_contest P__law_contest (defScope s__law_contest) := ⟨rfl, rfl, rfl, by decide +kernel, rfl, by decide +kernel, by decide +kernel⟩

def Pre_contest (ds : List D) : Prop := ∃ rs : List Str, ds = [.lst (rs.map D.str)] ∧ 0 < rs.length ∧ rs.length ≤ 1000 ∧ ∀ r ∈ rs, r = sFirst ∨ r = sBest ∨ r = sGroups
def R_contest (ds : List D) (d : D) : Prop := ∃ (rs : List Str) (c : Con), ds = [.lst (rs.map D.str)] ∧ d = c.d ∧ c.Ok ∧ c.rule ∈ rs
abbrev sp__law_contest (K : PySem.W.Frag) : Sp := spR K Pre_contest R_contest
def gOk (g : Nat × Nat) : Prop := (1 ≤ g.1 ∧ g.1 ≤ 5) ∧ 1 ≤ g.2 ∧ g.2 ≤ 100
def tOk (fin : Nat) (t : List (Nat × Nat) × Nat) : Prop := t.2 ≤ fin ∧ 1 ≤ t.1.length ∧ t.1.length ≤ 4 ∧ ∀ g ∈ t.1, gOk g
theorem ok__law_contest {f : Addr} {fd : FuncData} (F : Fun K "_law_contest" "_law_contest" s__law_contest f fd) (T : Tx K mg) (d__law_off : Dk P w K mg base 1 "_law_off" P__law_off (sp__law_off K)) : FnOk P w K mg base CX0 2 f fd P__law_contest (sp__law_contest K) := by
  refine F.ok sc__law_contest (fun vs H Q E h => ?_) (fun cdv A outer s H vs Q E hr h => ?_)
  · obtain ⟨p, ws, G, ds, rfl, e, gp, dc, ra, ⟨rs, rfl, hr0, hr1, hrs⟩, q⟩ := h
    exact congrArg (· + 1) ra.len
  · obtain ⟨p, ws, G, ds, rfl, e, gp, dc, ra, ⟨rs, rfl, hr0, hr1, hrs⟩, q⟩ := h
    obtain ⟨v1, rfl, r1⟩ := ra.one
    refine ⟨_, (pss_cons (ps_set (i := 2) sc__law_contest.nd rfl (by first | exact Or.inl rfl | exact Or.inr rfl) (pe_op (op_addK K rfl) pe_int (pe_fn d__law_off (hr.mono (by decide)) (by rfl) (pa_cons (pv 0) (pa_cons (pe_ix (ix_seqK K rfl) (pe_lst (pa_cons pe_int (pa_cons pe_int pa_nil))) (pe_fn d__law_off (hr.mono (by decide)) (by rfl) (pa_cons (pv 0) (pa_cons pe_int pa_nil))) (fun _ _ => rfl)) pa_nil)))))
    (pss_cons (ps_set (i := 3) sc__law_contest.nd rfl (by first | exact Or.inl rfl | exact Or.inr rfl) (pe_ix (ix_seqK K rfl) (pe_lst (pa_cons (pe_op (op_addK K rfl) pe_int (pe_fn d__law_off (hr.mono (by decide)) (by rfl) (pa_cons (pv 0) (pa_cons pe_int pa_nil)))) (pa_cons (pe_op (op_addK K rfl) pe_int (pe_fn d__law_off (hr.mono (by decide)) (by rfl) (pa_cons (pv 0) (pa_cons pe_int pa_nil)))) (pa_cons pe_int pa_nil)))) (pe_fn d__law_off (hr.mono (by decide)) (by rfl) (pa_cons (pv 0) (pa_cons pe_int pa_nil))) (fun _ _ => rfl)))
    (pss_cons (ps_set (i := 4) sc__law_contest.nd rfl (by first | exact Or.inl rfl | exact Or.inr rfl) (pe_lst pa_nil))
    (pss_cons (ps_for PassesOwn.never rfl (pi_range1 (by rfl) T.n_range (pa_cons (pe_op (op_addK K rfl) pe_int (pe_fn d__law_off (hr.mono (by decide)) (by rfl) (pa_cons (pv 0) (pa_cons (pe_ix (ix_seqK K rfl) (pe_lst (pa_cons pe_int (pa_cons pe_int pa_nil))) (pe_fn d__law_off (hr.mono (by decide)) (by rfl) (pa_cons (pv 0) (pa_cons pe_int pa_nil))) (fun _ _ => rfl)) pa_nil)))) pa_nil)) (pg_name (i := 5) sc__law_contest.nd rfl (by first | exact Or.inl rfl | exact Or.inr rfl)) (pss_cons (ps_set (i := 6) sc__law_contest.nd rfl (by first | exact Or.inl rfl | exact Or.inr rfl) (pe_lst pa_nil))
    (pss_cons (ps_for PassesOwn.never rfl (pi_range1 (by rfl) T.n_range (pa_cons (pe_op (op_addK K rfl) pe_int (pe_fn d__law_off (hr.mono (by decide)) (by rfl) (pa_cons (pv 0) (pa_cons pe_int pa_nil)))) pa_nil)) (pg_name (i := 7) sc__law_contest.nd rfl (by first | exact Or.inl rfl | exact Or.inr rfl)) (pss_cons (ps_set (i := 8) sc__law_contest.nd rfl (by first | exact Or.inl rfl | exact Or.inr rfl) (pe_op (op_addK K rfl) pe_int (pe_fn d__law_off (hr.mono (by decide)) (by rfl) (pa_cons (pv 0) (pa_cons (pe_ix (ix_seqK K rfl) (pe_lst (pa_cons pe_int (pa_cons pe_int pa_nil))) (pe_fn d__law_off (hr.mono (by decide)) (by rfl) (pa_cons (pv 0) (pa_cons pe_int pa_nil))) (fun _ _ => rfl)) pa_nil)))))
    (pss_one (ps_expr (pe_bm PySem.F.plainAttrs_list PySem.F.slot_list_append PySem.F.type_list_append mt_append (pv 6) (pa_cons (pe_tup (pa_cons (pe_op (op_addK K rfl) pe_int (pe_fn d__law_off (hr.mono (by decide)) (by rfl) (pa_cons (pv 0) (pa_cons (pe_ix (ix_seqK K rfl) (pe_lst (pa_cons pe_int (pa_cons pe_int pa_nil))) (pe_fn d__law_off (hr.mono (by decide)) (by rfl) (pa_cons (pv 0) (pa_cons pe_int pa_nil))) (fun _ _ => rfl)) pa_nil)))) (pa_cons (pv 8) pa_nil))) pa_nil))))))
    (pss_one (ps_expr (pe_bm PySem.F.plainAttrs_list PySem.F.slot_list_append PySem.F.type_list_append mt_append (pv 4) (pa_cons (pe_tup (pa_cons (pe_callTy (call_tupleK K rfl) (by rfl) T.n_tuple (by decide +kernel) (pa_cons (pv 6) pa_nil)) (pa_cons (pe_ix (ix_seqK K rfl) (pe_lst (pa_cons (pv 3) (pa_cons (pe_fn d__law_off (hr.mono (by decide)) (by rfl) (pa_cons (pv 0) (pa_cons (pe_op (op_addK K rfl) (pv 3) pe_int) pa_nil))) pa_nil))) (pe_fn d__law_off (hr.mono (by decide)) (by rfl) (pa_cons (pv 0) (pa_cons pe_int pa_nil))) (fun _ _ => rfl)) pa_nil))) pa_nil)))))))
    (pss_cons (ps_set (i := 9) sc__law_contest.nd rfl (by first | exact Or.inl rfl | exact Or.inr rfl) (pe_ix (ix_seqK K rfl) (pe_lst (pa_cons (pv 3) (pa_cons pe_int (pa_cons (pe_fn d__law_off (hr.mono (by decide)) (by rfl) (pa_cons (pv 0) (pa_cons (pe_op (op_addK K rfl) (pv 3) pe_int) pa_nil))) (pa_cons (pe_fn d__law_off (hr.mono (by decide)) (by rfl) (pa_cons (pv 0) (pa_cons (pe_op (op_addK K rfl) (pv 3) pe_int) pa_nil))) pa_nil))))) (pe_fn d__law_off (hr.mono (by decide)) (by rfl) (pa_cons (pv 0) (pa_cons pe_int pa_nil))) (fun _ _ => rfl)))
    (pss_one (ps_ret (pe_tup (pa_cons (pe_ix (ix_seqK K rfl) (pv 1) (pe_fn d__law_off (hr.mono (by decide)) (by rfl) (pa_cons (pv 0) (pa_cons (pe_callB (call_lenK K rfl) (by rfl) T.n_len (by decide +kernel) (pa_cons (pv 1) pa_nil)) pa_nil))) (fun _ _ => rfl)) (pa_cons (pv 2) (pa_cons (pv 3) (pa_cons (pv 9) (pa_cons (pe_callTy (call_tupleK K rfl) (by rfl) T.n_tuple (by decide +kernel) (pa_cons (pv 4) pa_nil)) pa_nil))))))))))))), ?_⟩
    try dsimp only [cxOf, Cx.nox, Cx.wish]
    have S0 := Sd.refl e gp dc
    refine qr_asg' (K := K) (R := Btw 2 12) S0 (by walk_at "drw") fun v2 d2 G1 H1 _ S1 ⟨teams, hd2, ht1, ht2⟩ r2 => ?_
    subst hd2
    refine qr_asg' (K := K) (R := Btw 1 300) S1 (by walk_at "drw") fun v3 d3 G2 H2 _ S2 ⟨fin, hd3, hf1, hf2⟩ r3 => ?_
    subst hd3
    have z3 := r3.int_of
    have z2 := r2.int_of
    subst z3 z2
    refine q_newLR S2 fun tl H3 tl1 tl2 tl3 tl4 S3 s3 tx => ?_
    refine q_rngR (K := K) (lo := 1) (hi := 6) (by decide) S3.ii S3.g S3.d (by walk_at "drw") fun n G4 H4 hn1 hn2 S34 => ?_
    have S4 := S3.trans S34
    obtain ⟨tg4, tx4⟩ := S34.keep tl3 tl4 tx
    refine q_for (K := K) (n := n) (js := [5]) (E := fun i => [.int i]) S4.s (i_rng1' (e_c (.int _)) (by omega)) (fun i hi => g_name)
      (fun i σ' G' H' => G' p = none ∧ Dice p H' ∧ G' tl = none ∧ (∃ xs tks, H' tl = some (.lst xs) ∧ RpA K G' xs (tks.map tkD) ∧ tks.length = i ∧ ∀ t ∈ tks, tOk fin t) ∧ ∃ w5 w6 w7 w8 w9, σ' = [some (.ref p), some v1, some (.int teams), some (.int fin), some (.ref tl), w5, w6, w7, w8, w9])
      (fun G5 H5 s5 => ⟨(S4.then s5).g, (S4.then s5).d, (s5.keep tg4 tx4).1, ⟨_, [], (s5.keep tg4 tx4).2, .nil, rfl, fun _ h => nomatch h⟩, _, _, _, _, _, rfl⟩) ?_ ?_
    · rintro Gw ew i hi σ' G' H' S' ew' ⟨gp', dc', tg', ⟨xs, tks, tx', rx, hl, hok⟩, w5, w6, w7, w8, w9, rfl⟩ G5 H5 us s5 ru
      obtain ⟨a, rfl, ra⟩ := ru.one
      have S5 : Sd p G H G5 H5 := (Sd.mk S' gp' dc').then s5
      obtain ⟨tg5, tx5⟩ := s5.keep tg' tx'
      refine q_newLR S5 fun gl H6 gl1 gl2 gl3 gl4 S6 s6 gx => ?_
      have ntg : tl ≠ gl := fun z => by rw [z, gl1] at tx5; cases tx5
      obtain ⟨tg6, tx6⟩ := s6.keep tg5 tx5
      refine q_rngR (K := K) (lo := 1) (hi := 4) (by decide) S6.ii S6.g S6.d (by walk_at "drw") fun m G7 H7 hm1 hm2 S67 => ?_
      have S7 := S6.trans S67
      obtain ⟨tg7, tx7⟩ := S67.keep tl3 tg6 tx6
      obtain ⟨gg7, gx7⟩ := S67.keep gl3 gl4 gx
      refine q_for (K := K) (n := m) (js := [7]) (E := fun i => [.int i]) S7.s (i_rng1' (e_c (.int _)) (by omega)) (fun i hi => g_name)
        (fun i σ' G' H' => G' p = none ∧ Dice p H' ∧ (G' tl = none ∧ H' tl = some (.lst xs)) ∧ G' gl = none ∧ (∃ ys gs, H' gl = some (.lst ys) ∧ RpA K G' ys (gs.map gD) ∧ gs.length = i ∧ ∀ g ∈ gs, gOk g) ∧ ∃ w7 w8, σ' = [some (.ref p), some v1, some (.int teams), some (.int fin), some (.ref tl), some a, some (.ref gl), w7, w8, w9])
        (fun G8 H8 s8 => ⟨(S7.then s8).g, (S7.then s8).d, s8.keep tg7 tx7, (s8.keep gg7 gx7).1, ⟨_, [], (s8.keep gg7 gx7).2, .nil, rfl, fun _ h => nomatch h⟩, _, _, rfl⟩) ?_ ?_
      · rintro Gv ev j hj σ'' G' H' S'' ev' ⟨gp'', dc'', ⟨tg8, tx8⟩, gg8, ⟨ys, gs, gx8, ry, hgl, hgok⟩, w7, w8, rfl⟩ G8 H8 us s8 ru
        obtain ⟨b, rfl, rb⟩ := ru.one
        have S8 : Sd p G H G8 H8 := (Sd.mk S'' gp'' dc'').then s8
        obtain ⟨tg9, tx9⟩ := s8.keep tg8 tx8
        obtain ⟨gg9, gx9⟩ := s8.keep gg8 gx8
        refine qr_asg' (K := K) (R := Btw 1 100) S8 (by walk_at "drw") fun v9 d9 G9 H9 S89 S9 ⟨pts, hd9, hp1, hp2⟩ r9 => ?_
        subst hd9
        have z9 := r9.int_of
        subst z9
        obtain ⟨tg10, tx10⟩ := S89.keep tl3 tg9 tx9
        obtain ⟨gg10, gx10⟩ := S89.keep gl3 gg9 gx9
        have hyl : ys.length = gs.length := by rw [ry.len, List.length_map]
        refine s_appR (K := K) (R := fun d => ∃ g, d = gD g ∧ gOk g) S9.ii S9.g S9.d gl3 gg10 gx10 rfl (r_tup (rs_cons (RA := Btw 1 5) (by walk_at "drw") (rs_one (RA := Btw pts pts) (by walk_at "dr") (Rs := fun ds => ds = [.int pts]) fun d ⟨r, e1, e2, e3⟩ => ?_) fun d ds ⟨r, e1, e2, e3⟩ e4 => ?_)) (by omega) fun v10 d10 G10 H10 S910 gg11 ⟨g, hd10, hgk⟩ r10 => ?_
        · have : r = pts := by omega
          subst this
          rw [e1]
        · subst e1 e4
          exact ⟨(by show 2 ≤ 1000; decide), (r, pts), rfl, ⟨e2, e3⟩, hp1, hp2⟩
        · subst hd10
          obtain ⟨tg11, tx11⟩ := S910.keep tl3 tg10 tx10
          have S10 := S9.trans S910
          have S11 := S10.mut (o := .lst (ys ++ [v10])) gl3 gl2 gg11
          refine ⟨G10, S11.s, ev'.trans (s8.g.trans (S89.gg.trans S910.gg)), S11.g, S11.d, ⟨tg11, by rw [upd_ne ntg]; exact tx11⟩, gg11, ⟨ys ++ [v10], gs ++ [g], upd_same, ?_, by rw [List.length_append, hgl]; rfl, fun g' hg' => ?_⟩, _, _, rfl⟩
          · rw [List.map_append]
            exact (ry.ex (s8.g.trans (S89.gg.trans S910.gg))).snoc r10
          · rcases List.mem_append.mp hg' with h | h
            · exact hgok g' h
            · rw [List.mem_singleton.mp h]; exact hgk
      · rintro σ'' G' H' S'' ev' ⟨gp'', dc'', ⟨tg8, tx8⟩, gg8, ⟨ys, gs, gx8, ry, hgl, hgok⟩, w7, w8, rfl⟩
        have S8 : Sd p G H G' H' := ⟨S'', gp'', dc''⟩
        have S9 := S8.freeze gl3 gl2 gg8 gx8
        have tg9 : upd G' gl (.lst ys) tl = none := by rw [upd_ne ntg]; exact tg8
        have hxl : xs.length = tks.length := by rw [rx.len, List.length_map]
        refine s_appR (K := K) (R := fun d => ∃ t, d = tkD t ∧ tOk fin t) S9.ii S9.g S9.d tl3 tg9 tx8 rfl (r_tup (rs_cons (RA := fun d => d = .tup (gs.map gD)) (r_of (e_tuple (e_var rfl (.lst upd_same (ry.ex (Ex.new gg8))))) rfl) (rs_one (RA := Btw 0 fin) (by walk_at "drw") (Rs := fun ds => ∃ r : Nat, ds = [.int r] ∧ r ≤ fin) fun d ⟨r, e1, e2, e3⟩ => ?_) fun d ds e1 ⟨r, e2, e3⟩ => ?_)) (by omega) fun v10 d10 G10 H10 S910 gg11 ⟨t, hd10, hgk⟩ r10 => ?_
        · exact ⟨r, by rw [e1], e3⟩
        · subst e1 e2
          exact ⟨(by show 2 ≤ 1000; decide), (gs, r), rfl, e3, (by show 1 ≤ gs.length; omega), (by show gs.length ≤ 4; omega), hgok⟩
        · subst hd10
          have S10 := S9.trans S910
          have S11 := S10.mut (o := .lst (xs ++ [v10])) tl3 tl2 gg11
          have eE : Ex G5 G10 := (Ex.trans (Ex.trans S67.gg ev') (Ex.new gg8)).trans S910.gg
          refine ⟨G10, S11.s, ew'.trans (s5.g.trans eE), S11.g, S11.d, gg11, ⟨xs ++ [v10], tks ++ [t], upd_same, ?_, by rw [List.length_append, hl]; rfl, fun g' hg' => ?_⟩, _, _, _, _, _, rfl⟩
          · rw [List.map_append]
            exact (rx.ex (s5.g.trans eE)).snoc r10
          · rcases List.mem_append.mp hg' with h | h
            · exact hok g' h
            · rw [List.mem_singleton.mp h]; exact hgk
    · rintro σ' G' H' S' ew' ⟨gp', dc', tg', ⟨xs, tks, tx', rx, hl, hok⟩, w5, w6, w7, w8, w9, rfl⟩
      have S5 : Sd p G H G' H' := ⟨S', gp', dc'⟩
      have S6 := S5.freeze tl3 tl2 tg' tx'
      refine qr_asg' (K := K) (R := Btw 0 fin) S6 (by walk_at "drw") fun v9 d9 G7 H7 S67 S7 ⟨fz, hd9, _, hf3⟩ r9 => ?_
      subst hd9
      have e7 : Ex G G7 := S7.gg
      have r1' := r1.ex e7
      have rt : Rp K G7 (.ref tl) (.lst (tks.map tkD)) := (Rp.lst upd_same (rx.ex (Ex.new tg'))).ex S67.gg
      have hlr : (rs.map D.str).length = rs.length := List.length_map _
      refine sr_ret' (K := K) (R := R_contest [.lst (rs.map D.str)]) S7 (r_tup (rs_cons (RA := fun d => ∃ r, r ∈ rs ∧ d = .str r) (r_ixL (e_var rfl r1') (r_offN rfl (e_len (e_var rfl r1') rfl) (by omega) (by omega)) fun d hd => ?_)
        (rs_of (Rs := fun ds => ds = [.int teams, .int fin, .int fz, .tup (tks.map tkD)]) (a_cons (by walk_at "ev") (a_cons (by walk_at "ev") (a_cons (e_var rfl r9) (a_one (e_tuple (e_var rfl rt)))))) rfl) fun d ds ⟨r, e1, e2⟩ e3 => ?_)) fun v d G8 H8 S8 hR rv => q v d G8 H8 S8.s S8.g S8.d hR rv
      · obtain ⟨r, h1, h2⟩ := List.mem_map.mp hd
        exact ⟨r, h1, h2.symm⟩
      · subst e2 e3
        exact ⟨by show 5 ≤ 1000; decide, rs, ⟨r, teams, fin, fz, tks⟩, rfl, rfl, ⟨hrs r e1, ⟨ht1, ht2⟩, ⟨hf1, hf2⟩, hf3, ⟨by show 1 ≤ tks.length; omega, by show tks.length ≤ 6; omega⟩, hok⟩, e1⟩

end

section
variable [Tbs] {P : Program} {w : World} {K : PySem.W.Frag} {mg : Str → Option Value} {base : Heap}
abbrev s__law_tries : Stmt := top 78
abbrev N__law_tries : List Str := ["_law_d", "_law_contest_here", "_law_most", "_law_found", "_law_few", "_law_time", "_law_step", "_law_k"]
abbrev P__law_tries : List Str := ["_law_d", "_law_contest_here", "_law_most"]
theorem sc__law_tries : FnScope N__law_tries P__law_tries (defScope s__law_tries) := ⟨rfl, rfl, rfl, by decide +kernel, rfl, by decide +kernel, by decide +kernel⟩

def Pre_tries (ds : List D) : Prop := ∃ (c : Con) (m : Nat), ds = [c.d, .int m] ∧ c.Ok ∧ m ≤ 200
def R_tries (ds : List D) (es : List D) : Prop := ∃ (c : Con) (m : Nat) (ts : List Try), ds = [c.d, .int m] ∧ es = ts.map trD ∧ TriesOk c ts ∧ ts.length ≤ m
abbrev sp__law_tries (K : PySem.W.Frag) : Sp := spRF K Pre_tries R_tries
theorem ok__law_tries {f : Addr} {fd : FuncData} (F : Fun K "_law_tries" "_law_tries" s__law_tries f fd) (T : Tx K mg) (d__law_off : Dk P w K mg base 1 "_law_off" P__law_off (sp__law_off K)) : FnOk P w K mg base CX0 2 f fd P__law_tries (sp__law_tries K) := by
  refine F.ok sc__law_tries (fun vs H Q E h => ?_) (fun cdv A outer s H vs Q E hr h => ?_)
  · obtain ⟨p, ws, G, ds, rfl, e, gp, dc, ra, ⟨c, m, rfl, oc, hm⟩, q⟩ := h
    exact congrArg (· + 1) ra.len
  · obtain ⟨p, ws, G, ds, rfl, e, gp, dc, ra, ⟨c, m, rfl, oc, hm⟩, q⟩ := h
    obtain ⟨v1, v2, rfl, r1, r2⟩ := ra.two
    refine ⟨_, (pss_cons (ps_set (i := 3) sc__law_tries.nd rfl (by first | exact Or.inl rfl | exact Or.inr rfl) (pe_lst pa_nil))
    (pss_cons (ps_set (i := 4) sc__law_tries.nd rfl (by first | exact Or.inl rfl | exact Or.inr rfl) (pe_ix (ix_seqK K rfl) (pe_lst (pa_cons pe_int (pa_cons pe_int (pa_cons pe_int pa_nil)))) (pe_fn d__law_off (hr.mono (by decide)) (by rfl) (pa_cons (pv 0) (pa_cons pe_int pa_nil))) (fun _ _ => rfl)))
    (pss_cons (ps_set (i := 5) sc__law_tries.nd rfl (by first | exact Or.inl rfl | exact Or.inr rfl) pe_int)
    (pss_cons (ps_set (i := 6) sc__law_tries.nd rfl (by first | exact Or.inl rfl | exact Or.inr rfl) (pe_ix (ix_seqK K rfl) (pe_lst (pa_cons pe_int (pa_cons pe_int (pa_cons pe_int pa_nil)))) (pe_fn d__law_off (hr.mono (by decide)) (by rfl) (pa_cons (pv 0) (pa_cons pe_int pa_nil))) (fun _ _ => rfl)))
    (pss_cons (ps_for PassesOwn.never rfl (pi_range1 (by rfl) T.n_range (pa_cons (pe_fn d__law_off (hr.mono (by decide)) (by rfl) (pa_cons (pv 0) (pa_cons (pe_op (op_addK K rfl) (pv 2) pe_int) pa_nil))) pa_nil)) (pg_name (i := 7) sc__law_tries.nd rfl (by first | exact Or.inl rfl | exact Or.inr rfl)) (pss_cons (ps_set (i := 5) sc__law_tries.nd rfl (by first | exact Or.inl rfl | exact Or.inr rfl) (pe_callB (call_min2 rfl) (by rfl) T.n_min (by decide +kernel) (pa_cons pe_int (pa_cons (pe_op (op_addK K rfl) (pv 5) (pe_fn d__law_off (hr.mono (by decide)) (by rfl) (pa_cons (pv 0) (pa_cons (pe_op (op_addK K rfl) (pv 6) pe_int) pa_nil)))) pa_nil))))
    (pss_one (ps_expr (pe_bm PySem.F.plainAttrs_list PySem.F.slot_list_append PySem.F.type_list_append mt_append (pv 3) (pa_cons (pe_tup (pa_cons (pe_fn d__law_off (hr.mono (by decide)) (by rfl) (pa_cons (pv 0) (pa_cons (pe_callB (call_min2 rfl) (by rfl) T.n_min (by decide +kernel) (pa_cons (pv 4) (pa_cons (pe_ix (ix_seqK K rfl) (pv 1) pe_int (fun _ _ => rfl)) pa_nil))) pa_nil))) (pa_cons (pe_fn d__law_off (hr.mono (by decide)) (by rfl) (pa_cons (pv 0) (pa_cons (pe_callB (call_lenK K rfl) (by rfl) T.n_len (by decide +kernel) (pa_cons (pe_ix (ix_seqK K rfl) (pv 1) pe_int (fun _ _ => rfl)) pa_nil)) pa_nil))) (pa_cons (pv 5) pa_nil)))) pa_nil))))))
    (pss_one (ps_ret (pv 3)))))))), ?_⟩
    try dsimp only [cxOf, Cx.nox, Cx.wish]
    have z2 := r2.int_of
    subst z2
    have S0 := Sd.refl e gp dc
    refine q_newLR S0 fun tl H1 tl1 tl2 tl3 tl4 S1 s1 tx => ?_
    refine qr_asg' (K := K) (R := Btw 1 12) S1 (by walk_at "drw") fun v4 d4 G2 H2 s2 S2 ⟨few, hd4, hf1, hf2⟩ r4 => ?_
    subst hd4
    have z4 := r4.int_of
    subst z4
    refine q_asgC ?_
    refine qr_asg' (K := K) (R := Btw 1 40) S2 (by walk_at "drw") fun v6 d6 G3 H3 s3 S3 ⟨st, hd6, hs1, hs2⟩ r6 => ?_
    subst hd6
    have z6 := r6.int_of
    subst z6
    obtain ⟨tg3, tx3⟩ := (s2.trans s3).keep tl3 tl4 tx
    refine q_rngR (K := K) (lo := 0) (hi := m) (by omega) S3.ii S3.g S3.d (by walk_at "drw") fun n G4 H4 hn1 hn2 S34 => ?_
    have S4 := S3.trans S34
    obtain ⟨tg4, tx4⟩ := S34.keep tl3 tg3 tx3
    have r1 := r1.ex S4.gg
    refine q_for (K := K) (n := n) (js := [7]) (E := fun i => [.int i]) S4.s (i_rng1' (e_c (.int _)) (by omega)) (fun i hi => g_name)
      (fun i σ' G' H' => G' p = none ∧ Dice p H' ∧ G' tl = none ∧ (∃ (xs : List V) (ts : List Try) (T : Nat), H' tl = some (.lst xs) ∧ RpA K G' xs (ts.map trD) ∧ ts.length = i ∧ TriesOk c ts ∧ T ≤ 999 ∧ (∀ t ∈ ts, t.2.2 ≤ T) ∧ ∃ w7, σ' = [some (.ref p), some v1, some (.int m), some (.ref tl), some (.int few), some (.int T), some (.int st), w7]))
      (fun G5 H5 s5 => ⟨(S4.then s5).g, (S4.then s5).d, (s5.keep tg4 tx4).1, ⟨_, [], 0, (s5.keep tg4 tx4).2, .nil, rfl, ⟨by decide, fun _ h => (nomatch h), .nil⟩, by decide, fun _ h => (nomatch h), _, rfl⟩⟩) ?_ ?_
    · rintro Gw ew i hi σ' G' H' S' ew' ⟨gp', dc', tg', ⟨xs, ts, T, tx', rx, hl, ot, hT, hTs, w7, rfl⟩⟩ G5 H5 us s5 ru
      obtain ⟨a, rfl, ra⟩ := ru.one
      have S5 : Sd p G H G5 H5 := (Sd.mk S' gp' dc').then s5
      obtain ⟨tg5, tx5⟩ := s5.keep tg' tx'
      refine qr_asg' (K := K) (R := Btw T 999) S5 (by walk_at "drw") fun v5 d5 G6 H6 s6 S6 ⟨T2, hd5, hT1, hT2⟩ r5 => ?_
      subst hd5
      have z5 := r5.int_of
      subst z5
      obtain ⟨tg6, tx6⟩ := s6.keep tl3 tg5 tx5
      have q1 := r1.ex (ew.trans (ew'.trans (s5.g.trans s6.gg)))
      have ht := oc.teams
      have htk := oc.many
      have hxl : xs.length = ts.length := by rw [rx.len, List.length_map]
      have htl : (c.tasks.map tkD).length = c.tasks.length := List.length_map _
      refine s_appR (K := K) (R := fun d => ∃ t, d = trD t ∧ TrOk c t ∧ t.2.2 = T2) S6.ii S6.g S6.d tl3 tg6 tx6 rfl (r_tup (rs_cons (RA := Btw 0 (c.teams - 1)) (r_w (r_off rfl (r_min2 (r_n (by walk_at "ev")) (r_n (n := c.teams) (e_ix (d1 := c.d) (by walk_at "ev") e_int rfl))) (by omega) (by omega)) (by omega) (by omega))
        (rs_cons (RA := Btw 0 (c.tasks.length - 1)) (r_w (r_off rfl (r_n (n := c.tasks.length) (e_len (d := .tup (c.tasks.map tkD)) (e_ix (d1 := c.d) (by walk_at "ev") e_int rfl) (congrArg some htl))) (by omega) (by omega)) (by omega) (by omega))
        (rs_one (RA := Btw T2 T2) (by walk_at "dr") (Rs := fun ds => ds = [.int T2]) fun d ⟨r, e1, e2, e3⟩ => ?_) (Rs := fun ds => ∃ k : Nat, ds = [.int k, .int T2] ∧ k < c.tasks.length) fun d ds ⟨r, e1, e2, e3⟩ e4 => ?_) fun d ds ⟨r, e1, e2, e3⟩ ⟨k, e4, e5⟩ => ?_)) (by omega) fun v10 d10 G10 H10 S910 gg11 ⟨t, hd10, hgk, htt⟩ r10 => ?_
      · have : r = T2 := by omega
        subst this
        rw [e1]
      · subst e1 e4
        exact ⟨r, rfl, by omega⟩
      · subst e1 e4
        exact ⟨(by show 3 ≤ 1000; decide), (r, k, T2), rfl, ⟨by show r < c.teams; omega, e5, hT2⟩, rfl⟩
      · subst hd10
        have S10 := S6.trans S910
        have S11 := S10.mut (o := .lst (xs ++ [v10])) tl3 tl2 gg11
        have eE : Ex G' G10 := s5.g.trans (s6.gg.trans S910.gg)
        refine ⟨G10, S11.s, ew'.trans eE, S11.g, S11.d, gg11, ⟨xs ++ [v10], ts ++ [t], T2, upd_same, ?_, by rw [List.length_append, hl]; rfl, ⟨by rw [List.length_append]; show _ + 1 ≤ 200; omega, fun t' ht' => ?_, ?_⟩, hT2, fun t' ht' => ?_, _, rfl⟩⟩
        · rw [List.map_append]
          exact (rx.ex eE).snoc r10
        · rcases List.mem_append.mp ht' with h | h
          · exact ot.ok t' h
          · rw [List.mem_singleton.mp h]; exact hgk
        · refine List.pairwise_append.mpr ⟨ot.rise, List.pairwise_singleton _ _, fun a ha b hb => ?_⟩
          rw [List.mem_singleton.mp hb, htt]
          exact Nat.le_trans (hTs a ha) hT1
        · rcases List.mem_append.mp ht' with h | h
          · exact Nat.le_trans (hTs t' h) hT1
          · rw [List.mem_singleton.mp h, htt]; exact Nat.le_refl _
    · rintro σ' G' H' S' ew' ⟨gp', dc', tg', ⟨xs, ts, T, tx', rx, hl, ot, hT, hTs, w7, rfl⟩⟩
      exact ⟨_, rfl, q tl xs _ G' H' ⟨S', gp', dc'⟩ tl2 tg' tx' ⟨c, m, ts, rfl, rfl, ot, by omega⟩ rx⟩

end

section
variable [Tbs] {P : Program} {w : World} {K : PySem.W.Frag} {mg : Str → Option Value} {base : Heap}
abbrev s__law_size : Stmt := top 79
abbrev N__law_size : List Str := ["_law_contest_here", "_law_task", "_law_many", "_law_points"]
abbrev P__law_size : List Str := ["_law_contest_here", "_law_task"]
theorem sc__law_size : FnScope N__law_size P__law_size (defScope s__law_size) := ⟨rfl, rfl, rfl, by decide +kernel, rfl, by decide +kernel, by decide +kernel⟩

def R_law_size (ds : List D) (r : D) : Prop := ∃ (c : Con) (k : Nat), ds = [c.d, .int k] ∧ c.Ok ∧ k < c.tasks.length ∧ r = .int (c.size k)
abbrev sp__law_size (K : PySem.W.Frag) : Sp := spP K R_law_size
theorem ok__law_size {f : Addr} {fd : FuncData} (F : Fun K "_law_size" "_law_size" s__law_size f fd) (T : Tx K mg) : FnOk P w K mg base CX0 1 f fd P__law_size (sp__law_size K) := by
  refine F.ok sc__law_size (fun vs H Q E h => ?_) (fun cdv A outer s H vs Q E hr h => ?_)
  · obtain ⟨G, ds, r, e, ra, ⟨c, k, rfl, oc, hk, rfl⟩, q⟩ := h
    exact ra.len
  · obtain ⟨G, ds, r, e, ra, ⟨c, k, rfl, oc, hk, rfl⟩, q⟩ := h
    obtain ⟨v0, v1, rfl, r0, r1⟩ := ra.two
    have hc := Con.task_at hk
    have ok := Con.task_ok oc hk
    refine ⟨_, (pss_one (ps_ret (pe_callB (cr_sumK K rfl rfl) (by rfl) T.n_sum (by decide +kernel) (pa_cons (pe_lc (own := [("_law_many", 2), ("_law_points", 3)]) (g := gTup K 2 (gCons (gName 2) (gCons (gName 3) gNil))) (tt := tYes) rfl sc__law_size.nd (pi_seqK K rfl (pe_ix (ix_seqK K rfl) (pe_ix (ix_seqK K rfl) (pe_ix (ix_seqK K rfl) (pv 0) pe_int (fun _ _ => rfl)) (pv 1) (fun _ _ => rfl)) pe_int (fun _ _ => rfl))) (blkOk_by (own := [("_law_many", 2), ("_law_points", 3)]) (N := N__law_size) (sc := defScope s__law_size) (by decide +kernel)) (fun _ _ _ _ _ => (pg_tup rfl (pgs_cons (pg_name (i := 2) sc__law_size.nd rfl (by first | exact Or.inl rfl | exact Or.inr rfl)) (pgs_cons (pg_name (i := 3) sc__law_size.nd rfl (by first | exact Or.inl rfl | exact Or.inr rfl)) pgs_nil)))) (fun _ _ _ _ _ => pts_nil) (fun _ _ _ _ _ => (pv 2))) pa_nil)))), ?_⟩
    try dsimp only [cxOf, Cx.nox, Cx.wish]
    refine s_ret (d := .int (c.size k)) e ?_ q
    refine EvD.eq (e_sum (ns := (c.groups k).map fun g => (g.1 : Int)) (EvF.toD (f_lcm (xs := c.groups k) (Y := nth ((c.groups k).map gD)) (js := [2, 3]) (fun _ g => [.int g.1, .int g.2]) (fun _ => true) (fun g => .int g.1)
      (i_seqT' (List.length_map _) (e_ix (d1 := tkD (c.task k)) (e_ix (d1 := .tup (c.tasks.map tkD)) (i := k) (by walk_at "ev") (by walk_at "ev") (at_mapT hc)) e_int rfl)) (fun i x hx => by rw [nth_map hx]; exact g_two) (by omega) (fun _ _ _ => rfl) (fun us h => match us, h with | [_, _], _ => rfl)
      (fun _ _ _ _ _ _ _ => b_yes) (fun i x hx _ G1 e1 us ru => ?_))) ?_) ?_
    · obtain ⟨a, b, rfl, ra, rb⟩ := ru.two
      exact e_var rfl ra
    · rw [List.filter_eq_self.mpr (fun _ _ => rfl), List.map_map]
      rfl
    · have h := sum_nat ((c.groups k).map (·.1))
      rw [List.map_map] at h
      exact congrArg D.int h

end

section
variable [Tbs] {P : Program} {w : World} {K : PySem.W.Frag} {mg : Str → Option Value} {base : Heap}
abbrev s__law_truth : Stmt := top 80
abbrev N__law_truth : List Str := ["_law_d", "_law_contest_here", "_law_tries_here", "_law_found", "_law_number", "_law_often", "_law_trial"]
abbrev P__law_truth : List Str := ["_law_d", "_law_contest_here", "_law_tries_here"]
theorem sc__law_truth : FnScope N__law_truth P__law_truth (defScope s__law_truth) := ⟨rfl, rfl, rfl, by decide +kernel, rfl, by decide +kernel, by decide +kernel⟩

/-- all trials of all tries, rising -/
def trialsUpTo (c : Con) (ts : List Try) (i : Nat) : List (Nat × Nat) := (List.range i).flatMap fun n => (List.range (szOf c ts n)).map fun t => (n, t)
abbrev allTr (c : Con) (ts : List Try) : List (Nat × Nat) := trialsUpTo c ts ts.length
theorem trialsUpTo_succ (c : Con) (ts : List Try) (i : Nat) : trialsUpTo c ts (i + 1) = trialsUpTo c ts i ++ (List.range (szOf c ts i)).map fun t => (i, t) := by
  unfold trialsUpTo
  rw [List.range_succ, List.flatMap_append, List.flatMap_singleton]
theorem mem_trialsUpTo {c : Con} {ts : List Try} {i : Nat} {x : Nat × Nat} : x ∈ trialsUpTo c ts i ↔ x.1 < i ∧ x.2 < szOf c ts x.1 := by
  unfold trialsUpTo
  simp only [List.mem_flatMap, List.mem_range, List.mem_map]
  constructor
  · rintro ⟨n, hn, t, ht, rfl⟩
    exact ⟨hn, ht⟩
  · rintro ⟨h1, h2⟩
    exact ⟨x.1, h1, x.2, h2, rfl⟩
theorem trialsUpTo_len {c : Con} {ts : List Try} (oc : c.Ok) (ot : TriesOk c ts) : ∀ {i : Nat}, i ≤ ts.length → (trialsUpTo c ts i).length ≤ 20 * i
  | 0, _ => Nat.le_refl _
  | i + 1, h => by
    have h1 := trialsUpTo_len oc ot (i := i) (by omega)
    have h2 : szOf c ts i ≤ 20 := Con.size_le20 oc (ot.at (n := i) (by omega)).task
    rw [trialsUpTo_succ, List.length_append, List.length_map, List.length_range]
    omega
def vkD (vs : List Ver) : List (List Key × V) := vs.map fun v => (verK v, V.bl v.2.2)
def vpos (vs : List Ver) : List (Nat × Nat) := vs.map fun v => (v.1, v.2.1)
def Pre_truth (ds : List D) : Prop := ∃ (c : Con) (ts : List Try), ds = [c.d, trsD ts] ∧ c.Ok ∧ TriesOk c ts
def R_truth (ds : List D) (d : D) : Prop := ∃ (c : Con) (ts : List Try) (vs : List Ver), ds = [c.d, trsD ts] ∧ d = .tab (vkD vs) ∧ vpos vs = allTr c ts
abbrev sp__law_truth (K : PySem.W.Frag) : Sp := spR K Pre_truth R_truth
theorem vkD_put {vs : List Ver} {n t : Nat} {b : Bool} (h : (n, t) ∉ vpos vs) : putK (vkD vs) [.inl n, .inl t] (.bl b) = vkD (vs ++ [(n, t, b)]) := by
  have hnone : valV (vkD vs) (verK (n, t, b)) = none := valV_map_none fun x hx hxe => h (List.mem_map.mpr ⟨x, hx, verK_inj hxe⟩)
  unfold vkD at hnone ⊢
  rw [List.map_append]
  exact putK_new _ hnone
theorem ok__law_truth {f : Addr} {fd : FuncData} (F : Fun K "_law_truth" "_law_truth" s__law_truth f fd) (T : Tx K mg) (d__law_off : Dk P w K mg base 1 "_law_off" P__law_off (sp__law_off K)) (d__law_size : Dk P w K mg base 1 "_law_size" P__law_size (sp__law_size K)) : FnOk P w K mg base CX0 2 f fd P__law_truth (sp__law_truth K) := by
  refine F.ok sc__law_truth (fun vs H Q E h => ?_) (fun cdv A outer s H vs Q E hr h => ?_)
  · obtain ⟨p, ws, G, ds, rfl, e, gp, dc, ra, ⟨c, ts, rfl, oc, ot⟩, q⟩ := h
    exact congrArg (· + 1) ra.len
  · obtain ⟨p, ws, G, ds, rfl, e, gp, dc, ra, ⟨c, ts, rfl, oc, ot⟩, q⟩ := h
    obtain ⟨v1, v2, rfl, r1, r2⟩ := ra.two
    refine ⟨_, (pss_cons (ps_set (i := 3) sc__law_truth.nd rfl (by first | exact Or.inl rfl | exact Or.inr rfl) pe_dnewT)
    (pss_cons (ps_for PassesOwn.never rfl (pi_range1 (by rfl) T.n_range (pa_cons (pe_callB (call_lenK K rfl) (by rfl) T.n_len (by decide +kernel) (pa_cons (pv 2) pa_nil)) pa_nil)) (pg_name (i := 4) sc__law_truth.nd rfl (by first | exact Or.inl rfl | exact Or.inr rfl)) (pss_cons (ps_set (i := 5) sc__law_truth.nd rfl (by first | exact Or.inl rfl | exact Or.inr rfl) (pe_ix (ix_seqK K rfl) (pe_lst (pa_cons pe_int (pa_cons pe_int (pa_cons pe_int (pa_cons (pe_op op_pow pe_int pe_int) pa_nil))))) (pe_fn d__law_off (hr.mono (by decide)) (by rfl) (pa_cons (pv 0) (pa_cons pe_int pa_nil))) (fun _ _ => rfl)))
    (pss_one (ps_for PassesOwn.never rfl (pi_range1 (by rfl) T.n_range (pa_cons (pe_fn d__law_size (hr.mono (by decide)) (by rfl) (pa_cons (pv 1) (pa_cons (pe_ix (ix_seqK K rfl) (pe_ix (ix_seqK K rfl) (pv 2) (pv 4) (fun _ _ => rfl)) pe_int (fun _ _ => rfl)) pa_nil))) pa_nil)) (pg_name (i := 6) sc__law_truth.nd rfl (by first | exact Or.inl rfl | exact Or.inr rfl)) (pss_one (ps_dput (hu_of hr) (pv 3) (pe_tup (pa_cons (pv 4) (pa_cons (pv 6) pa_nil))) (pe_cmpR op_gt (pe_fn d__law_off (hr.mono (by decide)) (by rfl) (pa_cons (pv 0) (pa_cons (pv 5) pa_nil))) pe_int (nomark _)) rfl))))))
    (pss_one (ps_ret (pv 3))))), ?_⟩
    try dsimp only [cxOf, Cx.nox, Cx.wish]
    have S0 := Sd.refl e gp dc
    refine q_newTR S0 fun tl H1 tl1 tl2 tl3 tl4 S1 s1 tx => ?_
    have hl := ot.len
    have htl : (ts.map trD).length = ts.length := List.length_map _
    refine q_for (K := K) (n := ts.length) (js := [4]) (E := fun i => [.int i]) S1.s (i_rng1' (e_len (d := trsD ts) (by walk_at "ev") (congrArg some htl)) (by omega)) (fun i hi => g_name)
      (fun i σ' G' H' => G' p = none ∧ Dice p H' ∧ G' tl = none ∧ (∃ vs, H' tl = some (.dT (vkD vs)) ∧ vpos vs = trialsUpTo c ts i) ∧ ∃ w4 w5 w6, σ' = [some (.ref p), some v1, some v2, some (.ref tl), w4, w5, w6])
      (fun G5 H5 s5 => ⟨(S1.then s5).g, (S1.then s5).d, (s5.keep tl4 tx).1, ⟨[], (s5.keep tl4 tx).2, rfl⟩, _, _, _, rfl⟩) ?_ ?_
    · rintro Gw ew i hi σ' G' H' S' ew' ⟨gp', dc', tg', ⟨vs, tx', hvs⟩, w4, w5, w6, rfl⟩ G5 H5 us s5 ru
      obtain ⟨a, rfl, ra⟩ := ru.one
      cases ra
      have S5 : Sd p G H G5 H5 := (Sd.mk S' gp' dc').then s5
      obtain ⟨tg5, tx5⟩ := s5.keep tg' tx'
      refine qr_asg' (K := K) (R := Btw 2 1000000) S5 (by walk_at "drw") fun v5 d5 G6 H6 s6 S6 ⟨often, hd5, hT1, hT2⟩ r5 => ?_
      subst hd5
      have z5 := r5.int_of
      subst z5
      obtain ⟨tg6, tx6⟩ := s6.keep tl3 tg5 tx5
      have e6 : Ex G G6 := ew.trans (ew'.trans (s5.g.trans s6.gg))
      have q1 := r1.ex e6
      have q2 := r2.ex e6
      have hk := try_at hi
      have htk := (ot.at hi).task
      have h20 : szOf c ts i ≤ 20 := Con.size_le20 oc htk
      refine s_for (K := K) (n := szOf c ts i) (js := [6]) (E := fun j => [.int j]) S6.s (i_rng1' (e_call (a_cons (by walk_at "ev") (a_one (e_ix (d1 := trD (tryAt ts i)) (e_ix (d1 := trsD ts) (i := i) (by walk_at "ev") (e_var rfl (.int _)) (at_mapL hk)) e_int rfl))) ⟨c, (tryAt ts i).2.1, rfl, oc, htk, rfl⟩) (by omega)) (fun i hi => g_name)
        (fun j σ' G' H' => G' p = none ∧ Dice p H' ∧ G' tl = none ∧ (∃ vs, H' tl = some (.dT (vkD vs)) ∧ vpos vs = trialsUpTo c ts i ++ (List.range j).map fun t => (i, t)) ∧ ∃ w6, σ' = [some (.ref p), some v1, some v2, some (.ref tl), some (.int i), some (.int often), w6])
        (fun G5 H5 s5 => ⟨(S6.then s5).g, (S6.then s5).d, (s5.keep tg6 tx6).1, ⟨vs, (s5.keep tg6 tx6).2, by rw [hvs]; exact (List.append_nil _).symm⟩, _, rfl⟩) ?_ ?_
      · rintro Gv ev j hj σ' G' H' S' ev' ⟨gp', dc', tg', ⟨vs, tx', hvs⟩, w6, rfl⟩ G7 H7 us s7 ru
        obtain ⟨a, rfl, ra⟩ := ru.one
        cases ra
        have S7 : Sd p G H G7 H7 := (Sd.mk S' gp' dc').then s7
        obtain ⟨tg7, tx7⟩ := s7.keep tg' tx'
        have hlen : (vkD vs).length ≤ 20 * ts.length := by
          have h1 := congrArg List.length hvs
          have h2 := trialsUpTo_len oc ot (i := i) (by omega)
          rw [List.length_append, List.length_map, List.length_range] at h1
          unfold vkD
          rw [List.length_map]
          unfold vpos at h1
          rw [List.length_map] at h1
          omega
        refine s_dputTR (K := K) (R := IsBl) (ks := [.inl i, .inl j]) S7.ii S7.g S7.d tl3 tg7 tx7 rfl (r_cmp (r_off rfl (r_n (n := often) (by walk_at "ev")) (by omega) (by omega)) (r_lit (by decide))) (fun d ⟨b, hd⟩ => by subst hd; rfl) (e_tup2 (e_var rfl (.int _)) (e_var rfl (.int _))) rfl (by omega) fun d G8 H8 s8 tg8 ⟨b, hd⟩ => ?_
        subst hd
        show ∃ G3, _
        rw [show (D.bl b).toV = V.bl b from rfl, vkD_put (by
          rw [hvs]
          intro h
          rcases List.mem_append.mp h with h | h
          · exact absurd (mem_trialsUpTo.mp h).1 (Nat.lt_irrefl _)
          · obtain ⟨t, h1, h2⟩ := List.mem_map.mp h
            injection h2 with _ h2
            subst h2
            exact absurd (List.mem_range.mp h1) (Nat.lt_irrefl _))]
        have S8 := (S7.trans s8).mut (o := .dT (vkD (vs ++ [(i, j, b)]))) tl3 tl2 tg8
        refine ⟨G8, S8.s, ev'.trans (s7.g.trans s8.gg), S8.g, S8.d, tg8, ⟨vs ++ [(i, j, b)], upd_same, ?_⟩, _, rfl⟩
        unfold vpos at hvs ⊢
        rw [List.map_append, hvs, List.range_succ, List.map_append, List.append_assoc]
        rfl
      · rintro σ' G' H' S' ev' ⟨gp', dc', tg', ⟨vs, tx', hvs⟩, w6, rfl⟩
        refine ⟨G', S', ew'.trans (s5.g.trans (s6.gg.trans ev')), gp', dc', tg', ⟨vs, tx', ?_⟩, _, _, _, rfl⟩
        rw [hvs, trialsUpTo_succ]
    · rintro σ' G' H' S' ew' ⟨gp', dc', tg', ⟨vs, tx', hvs⟩, w4, w5, w6, rfl⟩
      have S6 := (Sd.mk S' gp' dc').freeze tl3 tl2 tg' tx'
      exact ⟨_, rfl, q _ _ _ H' S6.s S6.g S6.d ⟨c, ts, vs, rfl, rfl, hvs⟩ (.tab upd_same)⟩

end

section
variable [Tbs] {P : Program} {w : World} {K : PySem.W.Frag} {mg : Str → Option Value} {base : Heap}

/-- pairs that stand rising -/
def Rise (l : List (Nat × Nat)) : Prop := l.Pairwise fun a b => a.1 < b.1 ∨ (a.1 = b.1 ∧ a.2 < b.2)
theorem Rise.nodup {l : List (Nat × Nat)} (h : Rise l) : l.Nodup := h.imp fun {a b} h z => by subst z; omega
theorem Rise.srtd {l : List (Nat × Nat)} (h : Rise l) : SrtO.Srtd lexB (l.map fun x => ((x.1 : Int), (x.2 : Int))) := by
  refine List.pairwise_map.mpr (h.imp fun {a b} h => SrtO.lexB_no.mpr ?_)
  show ¬ _
  omega
theorem valV_at {vs : List Ver} (h : (vpos vs).Nodup) {v : Ver} (hv : v ∈ vs) : valV (vkD vs) (verK v) = some (.bl v.2.2) := by
  induction vs with
  | nil => cases hv
  | cons u us ih =>
    unfold vkD
    rw [List.map_cons]
    by_cases z : u = v
    · subst z
      exact valV_pos rfl
    · have hm : v ∈ us := by
        cases hv with
        | head => exact absurd rfl z
        | tail _ h => exact h
      have h2 := List.nodup_cons.mp h
      rw [valV_neg (fun e => h2.1 (List.mem_map.mpr ⟨v, hm, (verK_inj e).symm⟩))]
      exact ih h2.2 hm
def Pre_some (ds : List D) : Prop := ∃ (vs : List Ver) (m : Nat), ds = [.tab (vkD vs), .int m] ∧ Rise (vpos vs) ∧ vs.length ≤ 100000 ∧ 0 < m ∧ m ≤ 1000000
def R_some (ds : List D) (es : List D) : Prop := ∃ (vs : List Ver) (m : Nat) (sub ws : List Ver), ds = [.tab (vkD vs), .int m] ∧ es = ws.map vrD ∧ sub.Sublist vs ∧ ws.Perm sub
abbrev sp__law_some (K : PySem.W.Frag) : Sp := spRF K Pre_some R_some
theorem perm_map_inv {α β : Type} {f : α → β} : ∀ {xs : List α} {ys : List β}, ys.Perm (xs.map f) → ∃ zs : List α, ys = zs.map f ∧ zs.Perm xs := by
  intro xs ys h
  generalize hl : xs.map f = l at h
  induction h generalizing xs with
  | nil =>
    cases xs with
    | nil => exact ⟨[], rfl, .nil⟩
    | cons _ _ => cases hl
  | cons x h ih =>
    cases xs with
    | nil => cases hl
    | cons a as =>
      injection hl with h1 h2
      obtain ⟨zs, e, p⟩ := ih h2
      exact ⟨a :: zs, by rw [List.map_cons, h1, e], p.cons a⟩
  | swap x y l =>
    match xs, hl with
    | a :: b :: as, hl =>
      injection hl with h1 h2
      injection h2 with h2 h3
      exact ⟨b :: a :: as, by rw [List.map_cons, List.map_cons, h1, h2, h3], .swap _ _ _⟩
  | trans h1 h2 ih1 ih2 =>
    obtain ⟨zs, e, p⟩ := ih2 hl
    obtain ⟨ws, e2, p2⟩ := ih1 e.symm
    exact ⟨ws, e2, p2.trans p⟩
theorem pick_sub {α : Type} {xs : List α} {b : Nat → Bool} {f : α → D} {g : Nat → D} (hg : ∀ i x, xs[i]? = some x → g i = f x) : ∃ sub : List α, sub.Sublist xs ∧ pick xs.length b g = sub.map f := by
  refine ⟨((List.range xs.length).filter b).filterMap fun i => xs[i]?, ?_, ?_⟩
  · have h : (List.range xs.length).filterMap (fun i => xs[i]?) = xs := by
      have h2 : (List.range xs.length).map (fun i => xs[i]?) = xs.map some := by
        apply List.ext_getElem?
        intro i
        rw [List.getElem?_map, List.getElem?_map]
        by_cases hi : i < xs.length
        · rw [List.getElem?_range hi, List.getElem?_eq_getElem hi]
          show some (xs[i]?) = some (some xs[i])
          rw [List.getElem?_eq_getElem hi]
        · rw [List.getElem?_eq_none (by rw [List.length_range]; omega), List.getElem?_eq_none (by omega)]
          rfl
      have h3 : (List.range xs.length).filterMap (fun i => xs[i]?) = ((List.range xs.length).map fun i => xs[i]?).filterMap id := by rw [List.filterMap_map]; rfl
      rw [h3, h2, List.filterMap_map]
      exact List.filterMap_some
    have h4 := (List.filter_sublist (l := List.range xs.length) (p := b)).filterMap (fun i => xs[i]?)
    rw [h] at h4
    exact h4
  · unfold pick
    rw [List.map_filterMap]
    have : ∀ l : List Nat, (∀ i ∈ l, i < xs.length) → l.map g = l.filterMap fun i => (xs[i]?).map f := by
      intro l hl
      induction l with
      | nil => rfl
      | cons i l ih =>
        have hi := hl i List.mem_cons_self
        rw [List.map_cons, List.filterMap_cons, List.getElem?_eq_getElem hi, ih fun j hj => hl j (List.mem_cons_of_mem _ hj), hg i _ (List.getElem?_eq_getElem hi)]
        rfl
    exact this _ fun i hi => List.mem_range.mp (List.mem_filter.mp hi).1
end

section
variable [Tbs] {P : Program} {w : World} {K : PySem.W.Frag} {mg : Str → Option Value} {base : Heap}
abbrev s__law_case : Stmt := top 81
abbrev N__law_case : List Str := ["_law_d", "_law_rules", "_law_most", "_law_contest_here", "_law_tries_here"]
abbrev P__law_case : List Str := ["_law_d", "_law_rules", "_law_most"]
theorem sc__law_case : FnScope N__law_case P__law_case (defScope s__law_case) := ⟨rfl, rfl, rfl, by decide +kernel, rfl, by decide +kernel, by decide +kernel⟩

def Pre_case (ds : List D) : Prop := ∃ (rs : List Str) (m : Nat), ds = [.lst (rs.map D.str), .int m] ∧ (0 < rs.length ∧ rs.length ≤ 1000 ∧ ∀ r ∈ rs, r = sFirst ∨ r = sBest ∨ r = sGroups) ∧ m ≤ 200
def R_case (ds : List D) (d : D) : Prop := ∃ (rs : List Str) (m : Nat) (c : Con) (ts : List Try) (vs : List Ver), ds = [.lst (rs.map D.str), .int m] ∧ d = .tup [c.d, trsD ts, .tab (vkD vs)] ∧ c.Ok ∧ c.rule ∈ rs ∧ TriesOk c ts ∧ ts.length ≤ m ∧ vpos vs = allTr c ts
abbrev sp__law_case (K : PySem.W.Frag) : Sp := spR K Pre_case R_case
theorem map_inj' {α β : Type} {f : α → β} (hf : ∀ a b, f a = f b → a = b) : ∀ {xs ys : List α}, xs.map f = ys.map f → xs = ys
  | [], [], _ => rfl
  | [], _ :: _, h => nomatch h
  | _ :: _, [], h => nomatch h
  | x :: xs, y :: ys, h => by
    rw [List.map_cons, List.map_cons] at h
    injection h with h1 h2
    rw [hf x y h1, map_inj' hf h2]
theorem dint_inj {a b : Nat} (h : D.int a = D.int b) : a = b := by
  injection h with h
  omega
theorem gD_inj (a b : Nat × Nat) (h : gD a = gD b) : a = b := by
  injection h with h
  injection h with h1 h
  injection h with h2 h
  exact Prod.ext (dint_inj h1) (dint_inj h2)
theorem tkD_inj (a b : List (Nat × Nat) × Nat) (h : tkD a = tkD b) : a = b := by
  injection h with h
  injection h with h1 h
  injection h with h2 h
  injection h1 with h1
  exact Prod.ext (map_inj' gD_inj h1) (dint_inj h2)
theorem Con.d_inj {a b : Con} (h : a.d = b.d) : a = b := by
  obtain ⟨a1, a2, a3, a4, a5⟩ := a
  obtain ⟨b1, b2, b3, b4, b5⟩ := b
  injection h with h
  injection h with h1 h
  injection h with h2 h
  injection h with h3 h
  injection h with h4 h
  injection h with h5 h
  injection h1 with h1
  injection h5 with h5
  have h1 : a1 = b1 := h1
  have e2 : a2 = b2 := dint_inj h2
  have e3 : a3 = b3 := dint_inj h3
  have e4 : a4 = b4 := dint_inj h4
  have e5 : a5 = b5 := map_inj' tkD_inj h5
  subst h1 e2 e3 e4 e5
  rfl
theorem trD_inj (a b : Try) (h : trD a = trD b) : a = b := by
  obtain ⟨a1, a2, a3⟩ := a
  obtain ⟨b1, b2, b3⟩ := b
  injection h with h
  injection h with h1 h
  injection h with h2 h
  injection h with h3 h
  have e1 : a1 = b1 := dint_inj h1
  have e2 : a2 = b2 := dint_inj h2
  have e3 : a3 = b3 := dint_inj h3
  subst e1 e2 e3
  rfl
theorem trsD_inj {a b : List Try} (h : trsD a = trsD b) : a = b := by
  injection h with h
  exact map_inj' trD_inj h
theorem Con.args_inj {a b : Con} {xs ys : List D} (h : a.d :: xs = b.d :: ys) : a = b ∧ xs = ys := by
  injection h with h1 h2
  exact ⟨Con.d_inj h1, h2⟩
theorem rs_inj {rs rs' : List Str} {xs ys : List D} (h : D.lst (rs.map D.str) :: xs = D.lst (rs'.map D.str) :: ys) : rs = rs' := by
  injection h with h1 h2
  injection h1 with h1
  exact map_inj' (fun a b h => by injection h) h1
theorem ok__law_case {f : Addr} {fd : FuncData} (F : Fun K "_law_case" "_law_case" s__law_case f fd) (T : Tx K mg) (d__law_contest : Dk P w K mg base 2 "_law_contest" P__law_contest (sp__law_contest K)) (d__law_tries : Dk P w K mg base 2 "_law_tries" P__law_tries (sp__law_tries K)) (d__law_truth : Dk P w K mg base 2 "_law_truth" P__law_truth (sp__law_truth K)) : FnOk P w K mg base CX0 3 f fd P__law_case (sp__law_case K) := by
  refine F.ok sc__law_case (fun vs H Q E h => ?_) (fun cdv A outer s H vs Q E hr h => ?_)
  · obtain ⟨p, ws, G, ds, rfl, e, gp, dc, ra, ⟨rs, m, rfl, hrs, hm⟩, q⟩ := h
    exact congrArg (· + 1) ra.len
  · obtain ⟨p, ws, G, ds, rfl, e, gp, dc, ra, ⟨rs, m, rfl, hrs, hm⟩, q⟩ := h
    obtain ⟨v1, v2, rfl, r1, r2⟩ := ra.two
    refine ⟨_, (pss_cons (ps_set (i := 3) sc__law_case.nd rfl (by first | exact Or.inl rfl | exact Or.inr rfl) (pe_fn d__law_contest (hr.mono (by decide)) (by rfl) (pa_cons (pv 0) (pa_cons (pv 1) pa_nil))))
    (pss_cons (ps_set (i := 4) sc__law_case.nd rfl (by first | exact Or.inl rfl | exact Or.inr rfl) (pe_fn d__law_tries (hr.mono (by decide)) (by rfl) (pa_cons (pv 0) (pa_cons (pv 3) (pa_cons (pv 2) pa_nil)))))
    (pss_one (ps_ret (pe_tup (pa_cons (pv 3) (pa_cons (pv 4) (pa_cons (pe_fn d__law_truth (hr.mono (by decide)) (by rfl) (pa_cons (pv 0) (pa_cons (pv 3) (pa_cons (pv 4) pa_nil)))) pa_nil)))))))), ?_⟩
    try dsimp only [cxOf, Cx.nox, Cx.wish]
    have S0 := Sd.refl e gp dc
    have z2 := r2.int_of
    subst z2
    refine qr_asg' (K := K) S0 (r_call1 rfl (a_one (e_var rfl r1)) ⟨rs, rfl, hrs⟩) fun v3 d3 G1 H1 s1 S1 ⟨rs', c, e1, hd3, oc, hrule⟩ r3 => ?_
    subst hd3
    have e1 := rs_inj e1
    subst e1
    refine qrf_asg (K := K) S1 (rf_call1 rfl (a_cons (e_var rfl r3) (a_one (e_var rfl (.int _)))) ⟨c, m, rfl, oc, hm⟩) fun tl xs ds G2 H2 s2 t1 t2 t3 ⟨c', m', ts, e2, e3, ot, hl⟩ rx => ?_
    obtain ⟨rfl, f2⟩ := Con.args_inj e2
    have g2 : m = m' := by injection f2 with f2; exact dint_inj f2
    subst g2 e3
    have n2 := S1.d.ne t1
    have S2 := (S1.trans s2).freeze n2 (S1.pre t1 n2) t2 t3
    have rt : Rp K (upd G2 tl (.lst xs)) (.ref tl) (trsD ts) := .lst upd_same (rx.ex (Ex.new t2))
    have rc : Rp K (upd G2 tl (.lst xs)) v3 c.d := r3.ex (s2.gg.trans (Ex.new t2))
    refine sr_ret' (K := K) (R := R_case [.lst (rs.map D.str), .int m]) S2 (r_tup (rs_cons (RA := fun d => d = c.d) (r_of (e_var rfl rc) rfl) (rs_cons (RA := fun d => d = trsD ts) (r_of (e_var rfl rt) rfl)
      (rs_one (r_call1 rfl (a_cons (e_var rfl rc) (a_one (e_var rfl rt))) ⟨c, ts, rfl, oc, ot⟩) (Rs := fun ds => ∃ vs, ds = [.tab (vkD vs)] ∧ vpos vs = allTr c ts) fun d ⟨c', ts', vs, e5, e6, e7⟩ => ?_) (Rs := fun ds => ∃ vs, ds = [trsD ts, .tab (vkD vs)] ∧ vpos vs = allTr c ts) fun d ds e5 ⟨vs, e6, e7⟩ => ?_) fun d ds e5 ⟨vs, e6, e7⟩ => ?_)) fun v d G3 H3 S3 hR rv => q v d G3 H3 S3.s S3.g S3.d hR rv
    · obtain ⟨rfl, f5⟩ := Con.args_inj e5
      have g5 : ts = ts' := by injection f5 with f5; exact trsD_inj f5
      subst g5 e6
      exact ⟨vs, rfl, e7⟩
    · subst e5 e6
      exact ⟨vs, rfl, e7⟩
    · subst e5 e6
      exact ⟨(by show 3 ≤ 1000; decide), rs, m, c, ts, vs, rfl, rfl, oc, hrule, ot, hl, e7⟩

end

section
variable [Tbs] {P : Program} {w : World} {K : PySem.W.Frag} {mg : Str → Option Value} {base : Heap}
abbrev s_is_over : Stmt := top 58
abbrev N_is_over : List Str := ["contest", "tries", "table", "number", "team", "task", "time", "ahead", "one"]
abbrev P_is_over : List Str := ["contest", "tries", "table", "number"]
theorem sc_is_over : FnScope N_is_over P_is_over (defScope s_is_over) := ⟨rfl, rfl, rfl, by decide +kernel, rfl, by decide +kernel, by decide +kernel⟩

theorem numsOf_lt {ts : List Try} {a b c k : Nat} (h : k ∈ numsOf ts a b c) : k < ts.length := List.mem_range.mp (List.mem_filter.mp h).1
/-- whether no trial of a try matters -/
def isOver (c : Con) (ts : List Try) (tb : Nat → Nat → Option Bool) (n : Nat) : Bool :=
  decide (c.fin ≤ (tryAt ts n).2.2) || (decide (c.rule = sFirst) && (decide (tSt c ts tb n = .failed) ||
    (((numsOf ts (tryAt ts n).1 (tryAt ts n).2.1 c.fin).filter fun k => decide (k < n)).any fun k => decide (tSt c ts tb k = .passed))))
def R_is_over (ds : List D) (r : D) : Prop := ∃ (c : Con) (ts : List Try) (kvs : List (List Key × V)) (tb : Nat → Nat → Option Bool) (n : Nat), ds = [c.d, trsD ts, .tab kvs, .int n] ∧ c.Ok ∧ TriesOk c ts ∧ TabOk kvs tb ∧ n < ts.length ∧ r = .bl (isOver c ts tb n)
abbrev sp_is_over (K : PySem.W.Frag) : Sp := spP K R_is_over
theorem ok_is_over {f : Addr} {fd : FuncData} (F : Fun K "is_over" "is_over" s_is_over f fd) (T : Tx K mg) (d_numbers_of : Dk P w K mg base 1 "numbers_of" P_numbers_of (sp_numbers_of K)) (d_try_state : Dk P w K mg base 3 "try_state" P_try_state (sp_try_state K)) : FnOk P w K mg base CX0 4 f fd P_is_over (sp_is_over K) := by
  refine F.ok sc_is_over (fun vs H Q E h => ?_) (fun cdv A outer s H vs Q E hr h => ?_)
  · obtain ⟨G, ds, r, e, ra, ⟨c, ts, kvs, tb, n, rfl, oc, ot, otb, hn, rfl⟩, q⟩ := h
    exact ra.len
  · obtain ⟨G, ds, r, e, ra, ⟨c, ts, kvs, tb, n, rfl, oc, ot, otb, hn, rfl⟩, q⟩ := h
    obtain ⟨v0, v1, v2, v3, rfl, r0, r1, r2, r3⟩ := ra.four
    refine ⟨_, (pss_cons (ps_asg (pe_ix (ix_seqK K rfl) (pv 1) (pv 3) (fun _ _ => rfl)) (pg_tup rfl (pgs_cons (pg_name (i := 4) sc_is_over.nd rfl (by first | exact Or.inl rfl | exact Or.inr rfl)) (pgs_cons (pg_name (i := 5) sc_is_over.nd rfl (by first | exact Or.inl rfl | exact Or.inr rfl)) (pgs_cons (pg_name (i := 6) sc_is_over.nd rfl (by first | exact Or.inl rfl | exact Or.inr rfl)) pgs_nil)))))
    (pss_cons (ps_if (pt_cmpR op_ge (pv 6) (pe_ix (ix_seqK K rfl) (pv 0) pe_int (fun _ _ => rfl)) (nomark _)) (pss_one (ps_ret pe_bl)) pss_nil)
    (pss_cons (ps_if (pt_cmpR (op_neK K rfl hr.units) (pe_ix (ix_seqK K rfl) (pv 0) pe_int (fun _ _ => rfl)) (pe_gS rfl T.c_FIRST) (nomark _)) (pss_one (ps_ret pe_bl)) pss_nil)
    (pss_cons (ps_if (pt_cmpR (op_eqK K rfl hr.units) (pe_fn d_try_state (hr.mono (by decide)) (by rfl) (pa_cons (pv 0) (pa_cons (pv 1) (pa_cons (pv 2) (pa_cons (pv 3) pa_nil))))) (pe_gS rfl T.c_FAILED) (nomark _)) (pss_one (ps_ret pe_bl)) pss_nil)
    (pss_cons (ps_setLc (i := 7) (own := [("one", 8)]) (g := gName 8) (tt := _) rfl sc_is_over.nd rfl rfl (sw_true rfl rfl rfl (by decide +kernel)) (pi_seqK K rfl (pe_fn d_numbers_of (hr.mono (by decide)) (by rfl) (pa_cons (pv 0) (pa_cons (pv 1) (pa_cons (pv 4) (pa_cons (pv 5) (pa_cons (pe_ix (ix_seqK K rfl) (pv 0) pe_int (fun _ _ => rfl)) pa_nil))))))) (blkOk_by (own := [("one", 8)]) (N := N_is_over) (sc := defScope s_is_over) (by decide +kernel)) (fun _ _ _ _ _ => (pg_name (i := 8) sc_is_over.nd rfl (by first | exact Or.inl rfl | exact Or.inr rfl))) (fun _ _ _ _ _ => (pts_one (pt_cmpR op_lt (pv 8) (pv 3) (nomark _)))) (fun _ _ _ _ _ => (pv 8)))
    (pss_one (ps_ret (pe_cmpR (op_neK K rfl hr.units) (pe_lc (own := [("one", 8)]) (g := gName 8) (tt := _) rfl sc_is_over.nd (pi_seqK K rfl (pv 7)) (blkOk_by (own := [("one", 8)]) (N := N_is_over) (sc := defScope s_is_over) (by decide +kernel)) (fun _ _ _ _ _ => (pg_name (i := 8) sc_is_over.nd rfl (by first | exact Or.inl rfl | exact Or.inr rfl))) (fun _ _ _ _ _ => (pts_one (pt_cmpR (op_eqK K rfl hr.units) (pe_fn d_try_state (hr.mono (by decide)) (by rfl) (pa_cons (pv 0) (pa_cons (pv 1) (pa_cons (pv 2) (pa_cons (pv 8) pa_nil))))) (pe_gS rfl T.c_PASSED) (nomark _)))) (fun _ _ _ _ _ => (pv 8))) (pe_lst pa_nil) (nomark _))))))))), ?_⟩
    try dsimp only [cxOf, Cx.nox, Cx.wish]
    have hk := try_at hn
    have hlen := ot.len
    refine q_asgT e (d := trD (tryAt ts n)) (js := [4, 5, 6]) (es := [.int (tryAt ts n).1, .int (tryAt ts n).2.1, .int (tryAt ts n).2.2]) (e_ix (d1 := trsD ts) (i := n) (by walk_at "ev") (by walk_at "ev") (at_mapL hk)) g_three fun us G1 H1 s1 ru => ?_
    obtain ⟨a4, a5, a6, rfl, q4, q5, q6⟩ := ru.three
    have r0 := r0.ex s1.g
    have r1 := r1.ex s1.g
    have r2 := r2.ex s1.g
    have r3 : Rp K G1 v3 (.int n) := r3.flat_any rfl
    show tSeq _ _ _ [some v0, some v1, some v2, some v3, some a4, some a5, some a6, none, none] _
    refine q_when (b := decide (c.fin ≤ (tryAt ts n).2.2)) s1.i (b_test (EvD.bl (e_ge (i := (tryAt ts n).2.2) (j := c.fin) (by walk_at "ev") (e_ix (d1 := c.d) (by walk_at "ev") e_int rfl)) (dec_iff Int.ofNat_le))) (fun hb G2 H2 s2 => ?_) (fun hb G2 H2 s2 => ?_)
    · refine s_ret (d := .bl (isOver c ts tb n)) s2.i ?_ fun v G3 H3 s3 r3 => q v G3 H3 ((s1.trans s2).trans s3) r3
      unfold isOver
      rw [hb]
      exact e_bl
    have r0 := r0.ex s2.g
    have r1 := r1.ex s2.g
    have r2 := r2.ex s2.g
    have r3 : Rp K G2 v3 (.int n) := r3.flat_any rfl
    have q4 : Rp K G2 a4 _ := q4.flat_any rfl
    have q5 : Rp K G2 a5 _ := q5.flat_any rfl
    have S2 := s1.trans s2
    refine q_when (b := !decide (c.rule = sFirst)) s2.i (b_test (e_ne (d1 := .str c.rule) (e_ix (d1 := c.d) (by walk_at "ev") e_int rfl) e_str rfl)) (fun hb' G3 H3 s3 => ?_) (fun hb' G3 H3 s3 => ?_)
    · refine s_ret (d := .bl (isOver c ts tb n)) s3.i ?_ fun v G4 H4 s4 r4 => q v G4 H4 ((S2.trans s3).trans s4) r4
      unfold isOver
      have z : decide (c.rule = sFirst) = false := by simpa using hb'
      rw [hb, z]
      exact e_bl
    have hb' : decide (c.rule = sFirst) = true := by simpa using hb'
    have r0 := r0.ex s3.g
    have r1 := r1.ex s3.g
    have r2 := r2.ex s3.g
    have r3 : Rp K G3 v3 (.int n) := r3.flat_any rfl
    have q4 : Rp K G3 a4 _ := q4.flat_any rfl
    have q5 : Rp K G3 a5 _ := q5.flat_any rfl
    have S3 := S2.trans s3
    refine q_when (b := decide (tSt c ts tb n = .failed)) s3.i (b_test (EvD.bl (e_eq (d1 := stD (tSt c ts tb n)) (d2 := stD .failed) (e_call (a_cons (by walk_at "ev") (a_cons (by walk_at "ev") (a_cons (by walk_at "ev") (a_one (by walk_at "ev"))))) ⟨c, ts, kvs, tb, n, rfl, oc, ot, otb, hn, rfl⟩) e_str rfl) (st_eq _ _))) (fun hb3 G4 H4 s4 => ?_) (fun hb3 G4 H4 s4 => ?_)
    · refine s_ret (d := .bl (isOver c ts tb n)) s4.i ?_ fun v G5 H5 s5 r5 => q v G5 H5 ((S3.trans s4).trans s5) r5
      unfold isOver
      rw [hb, hb', hb3]
      exact e_bl
    have r0 := r0.ex s4.g
    have r1 := r1.ex s4.g
    have r2 := r2.ex s4.g
    have r3 : Rp K G4 v3 (.int n) := r3.flat_any rfl
    have q4 : Rp K G4 a4 _ := q4.flat_any rfl
    have q5 : Rp K G4 a5 _ := q5.flat_any rfl
    have S4 := S3.trans s4
    generalize hN : numsOf ts (tryAt ts n).1 (tryAt ts n).2.1 c.fin = ns
    have hns : ∀ k ∈ ns, k < ts.length := fun k hk => by rw [← hN] at hk; exact numsOf_lt hk
    have hnl : ns.length ≤ 200 := by
      rw [← hN]
      have := List.length_filter_le (fun k => isOf (tryAt ts n).1 (tryAt ts n).2.1 c.fin (tryAt ts k)) (List.range ts.length)
      rw [List.length_range] at this
      unfold numsOf
      omega
    refine q_asg s4.i (d := .lst ((ns.filter fun k => decide (k < n)).map natD)) (EvF.toD (f_lcm (xs := ns) (Y := nth (ns.map natD)) (js := [8]) (fun _ k => [natD k]) (fun k => decide (k < n)) natD
      (i_seqL' (List.length_map _) (EvF.toD (f_call (K := K) (a_cons (by walk_at "ev") (a_cons (by walk_at "ev") (a_cons (by walk_at "ev") (a_cons (by walk_at "ev") (a_one (e_ix (d1 := c.d) (by walk_at "ev") e_int rfl)))))) ⟨c, ts, _, _, c.fin, rfl, hlen, by rw [hN]⟩)))
      (fun i x hx => by rw [nth_map hx]; exact g_name) (by omega) (fun _ _ _ => rfl) (fun us h => match us, h with | [_], _ => rfl) (fun i x hx G5 e5 us ru => ?_) (fun i x hx _ G5 e5 us ru => ?_))) fun v7 G5 H5 s5 r7 => ?_
    · obtain ⟨y, rfl, ry⟩ := ru.one
      exact b_test (EvD.bl (e_lt (i := x) (j := n) (e_var rfl ry) (e_var rfl (r3.flat_any rfl))) (dec_iff Int.ofNat_lt))
    · obtain ⟨y, rfl, ry⟩ := ru.one
      exact e_var rfl ry
    have r0 := r0.ex s5.g
    have r1 := r1.ex s5.g
    have r2 := r2.ex s5.g
    have S5 := S4.trans s5
    generalize hM : (ns.filter fun k => decide (k < n)) = ms at r7
    have hms : ∀ k ∈ ms, k < ts.length := fun k hk => by rw [← hM] at hk; exact hns k (List.mem_filter.mp hk).1
    have hml : ms.length ≤ 200 := by
      rw [← hM]
      have := List.length_filter_le (fun k => decide (k < n)) ns
      omega
    refine s_ret (d := .bl (isOver c ts tb n)) s5.i ?_ fun v G6 H6 s6 r6 => q v G6 H6 (S5.trans s6) r6
    refine EvD.bl (e_neD (d1 := .lst ((ms.filter fun k => decide (tSt c ts tb k = .passed)).map natD)) (EvF.toD (f_lcm (xs := ms) (Y := nth (ms.map natD)) (js := [8]) (fun _ k => [natD k]) (fun k => decide (tSt c ts tb k = .passed)) natD
      (i_seqL' (List.length_map _) (by walk_at "ev")) (fun i x hx => by rw [nth_map hx]; exact g_name) (by omega) (fun _ _ _ => rfl) (fun us h => match us, h with | [_], _ => rfl) (fun i x hx G6 e6 us ru => ?_) (fun i x hx _ G6 e6 us ru => ?_)))
      (EvF.toD (f_lst a_nil (by decide))) (ok_lst fun x _ => ⟨_, rfl⟩) rfl) ?_
    · obtain ⟨y, rfl, ry⟩ := ru.one
      exact b_test (EvD.bl (e_eq (d1 := stD (tSt c ts tb x)) (d2 := stD .passed) (e_call (a_cons (e_var rfl (r0.ex e6)) (a_cons (e_var rfl (r1.ex e6)) (a_cons (e_var rfl (r2.ex e6)) (a_one (e_var rfl ry))))) ⟨c, ts, kvs, tb, x, rfl, oc, ot, otb, hms x (List.mem_of_getElem? hx), rfl⟩) e_str rfl) (st_eq _ _))
    · obtain ⟨y, rfl, ry⟩ := ru.one
      exact e_var rfl ry
    · rw [eqv_nil]
      unfold isOver
      rw [hb, hb', hb3, hN, hM]
      rw [Bool.false_or, Bool.true_and, Bool.false_or]
      clear r7 hM hms hml
      induction ms with
      | nil => rfl
      | cons m ms ih =>
        rw [List.any_cons, List.filter_cons]
        cases hq : decide (tSt c ts tb m = .passed) with
        | true => rfl
        | false =>
          rw [Bool.false_or, ← ih]
          rfl

end

section
variable [Tbs] {P : Program} {w : World} {K : PySem.W.Frag} {mg : Str → Option Value} {base : Heap}
abbrev s_open_trials : Stmt := top 59
abbrev N_open_trials : List Str := ["contest", "tries", "table", "number", "states", "found", "begin", "g", "many", "points", "trial"]
abbrev P_open_trials : List Str := ["contest", "tries", "table", "number"]
theorem sc_open_trials : FnScope N_open_trials P_open_trials (defScope s_open_trials) := ⟨rfl, rfl, rfl, by decide +kernel, rfl, by decide +kernel, by decide +kernel⟩

/-- the trials of one group of try n that matter and aren't judged -/
def openG (gs : List (Nat × Nat)) (f : Nat → Option Bool) (g : Nat) : List Nat :=
  if gSt gs f g = .failed then [] else ((List.range (grp gs g).1).filter fun j => (f (pre gs g + j)).isNone).map fun j => pre gs g + j
def openTo (gs : List (Nat × Nat)) (f : Nat → Option Bool) (i : Nat) : List Nat := (List.range i).flatMap (openG gs f)
def openTr (c : Con) (ts : List Try) (tb : Nat → Nat → Option Bool) (n : Nat) : List Nat := if isOver c ts tb n = true then [] else openTo (gsOf c ts n) (tb n) (gsOf c ts n).length
def R_open_trials (ds : List D) (r : List D) : Prop := ∃ (c : Con) (ts : List Try) (kvs : List (List Key × V)) (tb : Nat → Nat → Option Bool) (n : Nat), ds = [c.d, trsD ts, .tab kvs, .int n] ∧ c.Ok ∧ TriesOk c ts ∧ TabOk kvs tb ∧ n < ts.length ∧ r = (openTr c ts tb n).map natD
abbrev sp_open_trials (K : PySem.W.Frag) : Sp := spF K R_open_trials
theorem openG_len (gs : List (Nat × Nat)) (f : Nat → Option Bool) (g : Nat) : (openG gs f g).length ≤ (grp gs g).1 := by
  unfold openG
  split
  · exact Nat.zero_le _
  · rw [List.length_map]
    have := List.length_filter_le (fun j => (f (pre gs g + j)).isNone) (List.range (grp gs g).1)
    rw [List.length_range] at this
    exact this
theorem openTo_succ (gs : List (Nat × Nat)) (f : Nat → Option Bool) (i : Nat) : openTo gs f (i + 1) = openTo gs f i ++ openG gs f i := by
  unfold openTo
  rw [List.range_succ, List.flatMap_append, List.flatMap_singleton]
theorem openTo_len {gs : List (Nat × Nat)} {f : Nat → Option Bool} : ∀ {i : Nat}, i ≤ gs.length → (openTo gs f i).length ≤ pre gs i
  | 0, _ => Nat.le_refl _
  | i + 1, h => by
    rw [openTo_succ, List.length_append, pre_succ (by omega)]
    have := openTo_len (gs := gs) (f := f) (i := i) (by omega)
    have := openG_len gs f i
    omega
theorem ok_open_trials {f : Addr} {fd : FuncData} (F : Fun K "open_trials" "open_trials" s_open_trials f fd) (T : Tx K mg) (d_group_states : Dk P w K mg base 2 "group_states" P_group_states (sp_group_states K)) (d_is_over : Dk P w K mg base 4 "is_over" P_is_over (sp_is_over K)) : FnOk P w K mg base CX0 5 f fd P_open_trials (sp_open_trials K) := by
  refine F.ok sc_open_trials (fun vs H Q E h => ?_) (fun cdv A outer s H vs Q E hr h => ?_)
  · obtain ⟨G, ds, r, e, ra, ⟨c, ts, kvs, tb, n, rfl, oc, ot, otb, hn, rfl⟩, q⟩ := h
    exact ra.len
  · obtain ⟨G, ds, r, e, ra, ⟨c, ts, kvs, tb, n, rfl, oc, ot, otb, hn, rfl⟩, q⟩ := h
    obtain ⟨v0, v1, v2, v3, rfl, r0, r1, r2, r3⟩ := ra.four
    refine ⟨_, (pss_cons (ps_if (pt_val (pe_fn d_is_over (hr.mono (by decide)) (by rfl) (pa_cons (pv 0) (pa_cons (pv 1) (pa_cons (pv 2) (pa_cons (pv 3) pa_nil)))))) (pss_one (ps_ret (pe_lst pa_nil))) pss_nil)
    (pss_cons (ps_set (i := 4) sc_open_trials.nd rfl (by first | exact Or.inl rfl | exact Or.inr rfl) (pe_fn d_group_states (hr.mono (by decide)) (by rfl) (pa_cons (pv 0) (pa_cons (pv 1) (pa_cons (pv 2) (pa_cons (pv 3) pa_nil))))))
    (pss_cons (ps_set (i := 5) sc_open_trials.nd rfl (by first | exact Or.inl rfl | exact Or.inr rfl) (pe_lst pa_nil))
    (pss_cons (ps_set (i := 6) sc_open_trials.nd rfl (by first | exact Or.inl rfl | exact Or.inr rfl) pe_int)
    (pss_cons (ps_for PassesOwn.never rfl (pi_enK K rfl (by rfl) T.n_enumerate (pa_cons (pe_ix (ix_seqK K rfl) (pe_ix (ix_seqK K rfl) (pe_ix (ix_seqK K rfl) (pv 0) pe_int (fun _ _ => rfl)) (pe_ix (ix_seqK K rfl) (pe_ix (ix_seqK K rfl) (pv 1) (pv 3) (fun _ _ => rfl)) pe_int (fun _ _ => rfl)) (fun _ _ => rfl)) pe_int (fun _ _ => rfl)) pa_nil)) (pg_tup rfl (pgs_cons (pg_name (i := 7) sc_open_trials.nd rfl (by first | exact Or.inl rfl | exact Or.inr rfl)) (pgs_cons (pg_tup rfl (pgs_cons (pg_name (i := 8) sc_open_trials.nd rfl (by first | exact Or.inl rfl | exact Or.inr rfl)) (pgs_cons (pg_name (i := 9) sc_open_trials.nd rfl (by first | exact Or.inl rfl | exact Or.inr rfl)) pgs_nil))) pgs_nil))) (Evl.pss_cut (ps_if (pt_cmpR (op_neK K rfl hr.units) (pe_ix (ix_seqK K rfl) (pv 4) (pv 7) (fun _ _ => rfl)) (pe_gS rfl T.c_FAILED) (nomark _)) (pss_one (ps_expr (pe_bm PySem.F.plainAttrs_list PySem.F.slot_list_extend PySem.F.type_list_extend mt_extend (pv 5) (pa_cons (pe_lc (own := [("trial", 10)]) (g := gName 10) (tt := _) rfl sc_open_trials.nd (pi_range2 (by rfl) T.n_range (pa_cons (pv 6) (pa_cons (pe_op (op_addK K rfl) (pv 6) (pv 8)) pa_nil))) (blkOk_by (own := [("trial", 10)]) (N := N_open_trials) (sc := defScope s_open_trials) (by decide +kernel)) (fun _ _ _ _ _ => (pg_name (i := 10) sc_open_trials.nd rfl (by first | exact Or.inl rfl | exact Or.inr rfl))) (fun _ _ _ _ _ => (pts_one (pt_cmp (pc_dnotin (hu_of hr) (pe_tup (pa_cons (pv 3) (pa_cons (pv 10) pa_nil))) (pv 2))))) (fun _ _ _ _ _ => (pv 10))) pa_nil)))) pss_nil)
    (pss_one (ps_set (i := 6) sc_open_trials.nd rfl (by first | exact Or.inl rfl | exact Or.inr rfl) (pe_op (op_addK K rfl) (pv 6) (pv 8))))))
    (pss_one (ps_ret (pv 5)))))))), ?_⟩
    try dsimp only [cxOf, Cx.nox, Cx.wish]
    have hk := try_at hn
    have ok := ot.at hn
    have hc := Con.task_at ok.task
    obtain ⟨o1, o2, o3, o4⟩ := Con.task_ok oc ok.task
    have o3 : (gsOf c ts n).length ≤ 4 := o3
    have hsz : sizeG (gsOf c ts n) ≤ 20 := Con.size_le20 oc ok.task
    refine q_when (b := isOver c ts tb n) e (b_B (e_call (a_cons (by walk_at "ev") (a_cons (by walk_at "ev") (a_cons (by walk_at "ev") (a_one (by walk_at "ev"))))) ⟨c, ts, kvs, tb, n, rfl, oc, ot, otb, hn, rfl⟩)) (fun hb G1 H1 s1 => ?_) (fun hb G1 H1 s1 => ?_)
    · unfold openTr at q
      rw [if_pos hb] at q
      exact s_retF (K := K) s1.i (f_lst a_nil (by decide)) fun p xs G2 H2 s2 h1 h2 h3 r => q p xs G2 H2 (s1.trans s2) (s1.pre h1) h2 h3 r
    have r0 := r0.ex s1.g
    have r1 := r1.ex s1.g
    have r2 := r2.ex s1.g
    have r3 : Rp K G1 v3 (.int n) := r3.flat_any rfl
    unfold openTr at q
    rw [if_neg (by rw [hb]; exact Bool.false_ne_true)] at q
    refine q_asg s1.i (d := .lst ((gSts (gsOf c ts n) (tb n)).map stD)) (EvF.toD (f_call (K := K) (a_cons (by walk_at "ev") (a_cons (by walk_at "ev") (a_cons (by walk_at "ev") (a_one (by walk_at "ev"))))) ⟨c, ts, kvs, tb, n, rfl, oc, ot, otb, hn, rfl⟩)) fun v4 G2 H2 s2 r4 => ?_
    have r0 := r0.ex s2.g
    have r1 := r1.ex s2.g
    have r2 := r2.ex s2.g
    have r3 : Rp K G2 v3 (.int n) := r3.flat_any rfl
    have S2 := s1.trans s2
    refine q_newL s2.i fun p H3 hp gp s3 hx => ?_
    refine q_asgC ?_
    have S3 := S2.trans s3
    have hp0 := S2.pre hp
    refine q_for (n := (gsOf c ts n).length) (js := [7, 8, 9]) (E := fun i => [.int i, .int (grp (gsOf c ts n) i).1, .int (grp (gsOf c ts n) i).2]) S3
      (i_enT' (List.length_map (f := gD)) (e_ix (d1 := tkD (c.task (tryAt ts n).2.1)) (e_ix (d1 := .tup (c.tasks.map tkD)) (i := ((tryAt ts n).2.1 : Nat)) (e_ix (d1 := c.d) (by walk_at "ev") e_int rfl)
        (e_ix (d1 := trD (tryAt ts n)) (e_ix (d1 := trsD ts) (i := n) (by walk_at "ev") (e_var rfl (r3.flat_any rfl)) (at_mapL hk)) e_int rfl) (at_mapT hc)) e_int rfl))
      (fun i hi => by rw [nth_map (grp_at hi)]; exact g_tup (g_cons g_name (g_cons g_two g_nil rfl) rfl) rfl)
      (fun i σ' G' H' => G' p = none ∧ (∃ xs, H' p = some (.lst xs) ∧ RpA K G' xs ((openTo (gsOf c ts n) (tb n) i).map natD)) ∧ ∃ w7 w8 w9 w10, σ' = [some v0, some v1, some v2, some v3, some v4, some (.ref p), some (.int (pre (gsOf c ts n) i)), w7, w8, w9, w10])
      (fun G3 H3 s3 => ⟨(s3.keep gp hx).1, ⟨_, (s3.keep gp hx).2, .nil⟩, none, none, none, none, rfl⟩) ?_ ?_
    · rintro Gw ew i hi σ' G' H' S' ew' ⟨g', ⟨xs, x', rx⟩, w7, w8, w9, w10, rfl⟩ G3 H3 us s3 ru
      obtain ⟨a, b, c', rfl, ra, rb, rc⟩ := ru.three
      cases ra
      cases rb
      have e3 : Ex G2 G3 := ew.trans (ew'.trans s3.g)
      have q2 := r2.ex e3
      have q3 : Rp K G3 v3 (.int n) := r3.flat_any rfl
      have q4 := r4.ex e3
      obtain ⟨g3, x3⟩ := s3.keep g' x'
      have hb2 := pre_mono (gs := gsOf c ts n) (a := i + 1) (b := (gsOf c ts n).length) (by omega) (Nat.le_refl _)
      rw [pre_full] at hb2
      have hb3 := pre_succ hi
      have hlo := openTo_len (gs := gsOf c ts n) (f := tb n) (i := i) (by omega)
      have hlx : xs.length = (openTo (gsOf c ts n) (tb n) i).length := by rw [rx.len, List.length_map]
      show tCut _ _ _ [some v0, some v1, some v2, some v3, some v4, some (.ref p), some (.int (pre (gsOf c ts n) i)), some (.int i), some (.int (grp (gsOf c ts n) i).1), some c', w10] _
      refine Evl.q_cut (M := fun σ2 H4 => σ2 = [some v0, some v1, some v2, some v3, some v4, some (.ref p), some (.int (pre (gsOf c ts n) i)), some (.int i), some (.int (grp (gsOf c ts n) i).1), some c', w10] ∧ ∃ G4 ys, Step G H G4 H4 ∧ Ex Gw G4 ∧ G4 p = none ∧ H4 p = some (.lst ys) ∧ RpA K G4 ys ((openTo (gsOf c ts n) (tb n) (i + 1)).map natD)) ?_ ?_
      · refine s_when (b := !decide (gSt (gsOf c ts n) (tb n) i = .failed)) s3.i (b_test (EvD.bl (e_ne (d1 := stD (gSt (gsOf c ts n) (tb n) i)) (d2 := stD .failed) (e_ix (d1 := .lst ((gSts (gsOf c ts n) (tb n)).map stD)) (i := (i : Nat)) (by walk_at "ev") (e_var rfl (.int _)) (at_mapL (gSts_at hi))) e_str rfl) (congrArg _ (st_eq _ _)))) (fun hb G4 H4 s4 => ?_) (fun hb G4 H4 s4 => ?_)
        · have hb : ¬ gSt (gsOf c ts n) (tb n) i = .failed := by simpa using hb
          have q2 := q2.ex s4.g
          obtain ⟨g4, x4⟩ := s4.keep g3 x3
          refine s_ext (ds := (openG (gsOf c ts n) (tb n) i).map natD) s4.i g4 x4 rfl (EvD.eq (EvF.toD (f_lc (n := (grp (gsOf c ts n) i).1) (js := [10]) (fun k => [.int ((pre (gsOf c ts n) i : Nat) + k)]) (fun k => (tb n (pre (gsOf c ts n) i + k)).isNone) (fun k => natD (pre (gsOf c ts n) i + k))
            (i_rng2' (i := (pre (gsOf c ts n) i : Nat)) (j := (pre (gsOf c ts n) i : Nat) + ((grp (gsOf c ts n) i).1 : Nat)) (e_var rfl (.int _)) (e_addI (e_var rfl (.int _)) (e_var rfl (.int _))) (by omega) (by omega)) (fun _ _ => g_name) (by omega) (fun _ _ => rfl)
            (fun us h => match us, h with | [_], _ => rfl) (fun k hk' G5 e5 us ru => ?_) (fun k hk' _ G5 e5 us ru => ?_))) ?_) (by rw [List.length_map]; have := openG_len (gsOf c ts n) (tb n) i; omega) fun ys G5 H5 s5 g5 ry => ?_
          · obtain ⟨y, rfl, ry⟩ := ru.one
            cases ry
            refine b_B (EvD.bl (e_dnin (ks := [.inl n, .inl ((pre (gsOf c ts n) i : Nat) + (k : Int))]) (e_tup2 (e_var rfl (q3.flat_any rfl)) (e_var rfl (.int _))) (e_var rfl (q2.ex e5)) rfl) ?_)
            have h := otb.has n (pre (gsOf c ts n) i + k)
            rw [show ([.inl (n : Int), .inl ((pre (gsOf c ts n) i : Nat) + (k : Int))] : List Key) = [.inl (n : Int), .inl ((pre (gsOf c ts n) i + k : Nat) : Int)] from rfl, h]
            cases tb n (pre (gsOf c ts n) i + k) <;> rfl
          · obtain ⟨y, rfl, ry⟩ := ru.one
            cases ry
            exact e_var rfl (.int _)
          · unfold openG pick
            rw [if_neg hb, List.map_map]
            rfl
          · refine ⟨rfl, G5, xs ++ ys, (((S'.trans s3).trans s4).trans s5).mut hp0 g5, ew'.trans (s3.g.trans (s4.g.trans s5.g)), g5, upd_same, ?_⟩
            rw [openTo_succ, List.map_append]
            exact (rx.ex ((s3.g.trans s4.g).trans s5.g)).app ry
        · have hb : gSt (gsOf c ts n) (tb n) i = .failed := by simpa using hb
          obtain ⟨g4, x4⟩ := s4.keep g3 x3
          refine ⟨rfl, G4, xs, (S'.trans s3).trans s4, ew'.trans (s3.g.trans s4.g), g4, x4, ?_⟩
          rw [openTo_succ, List.map_append]
          have z : openG (gsOf c ts n) (tb n) i = [] := by unfold openG; rw [if_pos hb]
          rw [z, List.map_nil, List.append_nil]
          exact rx.ex (s3.g.trans s4.g)
      · rintro _ H4 ⟨rfl, G4, ys, S4, ew4, g4, x4, r4⟩
        refine s_asg S4.i (d := .int (pre (gsOf c ts n) (i + 1))) (EvD.int (e_addI (e_var rfl (.int _)) (e_var rfl (.int _))) (by omega)) fun v5 G5 H5 s5 r5 => ?_
        cases r5
        obtain ⟨g5, x5⟩ := s5.keep g4 x4
        exact ⟨G5, S4.trans s5, ew4.trans s5.g, g5, ⟨_, x5, r4.ex s5.g⟩, _, _, _, _, rfl⟩
    · rintro σ' G' H' S' ew ⟨g', ⟨xs, x', rx⟩, w7, w8, w9, w10, rfl⟩
      exact ⟨_, rfl, q p xs G' H' S' hp0 g' x' rx⟩

end

section
variable [Tbs] {P : Program} {w : World} {K : PySem.W.Frag} {mg : Str → Option Value} {base : Heap}
abbrev s_all_open : Stmt := top 60
abbrev N_all_open : List Str := ["contest", "tries", "table", "found", "number", "trial"]
abbrev P_all_open : List Str := ["contest", "tries", "table"]
theorem sc_all_open : FnScope N_all_open P_all_open (defScope s_all_open) := ⟨rfl, rfl, rfl, by decide +kernel, rfl, by decide +kernel, by decide +kernel⟩

def prD (x : Nat × Nat) : D := .tup [.int x.1, .int x.2]
def openUpTo (c : Con) (ts : List Try) (tb : Nat → Nat → Option Bool) (i : Nat) : List (Nat × Nat) := (List.range i).flatMap fun n => (openTr c ts tb n).map fun t => (n, t)
def allOpen (c : Con) (ts : List Try) (tb : Nat → Nat → Option Bool) : List (Nat × Nat) := openUpTo c ts tb ts.length
def R_all_open (ds : List D) (r : List D) : Prop := ∃ (c : Con) (ts : List Try) (kvs : List (List Key × V)) (tb : Nat → Nat → Option Bool), ds = [c.d, trsD ts, .tab kvs] ∧ c.Ok ∧ TriesOk c ts ∧ TabOk kvs tb ∧ r = (allOpen c ts tb).map prD
abbrev sp_all_open (K : PySem.W.Frag) : Sp := spF K R_all_open
theorem openUpTo_succ (c : Con) (ts : List Try) (tb : Nat → Nat → Option Bool) (i : Nat) : openUpTo c ts tb (i + 1) = openUpTo c ts tb i ++ (openTr c ts tb i).map fun t => (i, t) := by
  unfold openUpTo
  rw [List.range_succ, List.flatMap_append, List.flatMap_singleton]
theorem openTr_len {c : Con} {ts : List Try} (oc : c.Ok) (ot : TriesOk c ts) (tb : Nat → Nat → Option Bool) {n : Nat} (h : n < ts.length) : (openTr c ts tb n).length ≤ 20 := by
  unfold openTr
  split
  · exact Nat.zero_le _
  · have h1 := openTo_len (gs := gsOf c ts n) (f := tb n) (Nat.le_refl (gsOf c ts n).length)
    have h2 : sizeG (gsOf c ts n) ≤ 20 := Con.size_le20 oc (ot.at h).task
    rw [pre_full] at h1
    omega
theorem openUpTo_len {c : Con} {ts : List Try} (oc : c.Ok) (ot : TriesOk c ts) (tb : Nat → Nat → Option Bool) : ∀ {i : Nat}, i ≤ ts.length → (openUpTo c ts tb i).length ≤ 20 * i
  | 0, _ => Nat.le_refl _
  | i + 1, h => by
    rw [openUpTo_succ, List.length_append, List.length_map]
    have h1 := openUpTo_len oc ot tb (i := i) (by omega)
    have h2 := openTr_len oc ot tb (n := i) (by omega)
    omega
theorem ok_all_open {f : Addr} {fd : FuncData} (F : Fun K "all_open" "all_open" s_all_open f fd) (T : Tx K mg) (d_open_trials : Dk P w K mg base 5 "open_trials" P_open_trials (sp_open_trials K)) : FnOk P w K mg base CX0 6 f fd P_all_open (sp_all_open K) := by
  refine F.ok sc_all_open (fun vs H Q E h => ?_) (fun cdv A outer s H vs Q E hr h => ?_)
  · obtain ⟨G, ds, r, e, ra, ⟨c, ts, kvs, tb, rfl, oc, ot, otb, rfl⟩, q⟩ := h
    exact ra.len
  · obtain ⟨G, ds, r, e, ra, ⟨c, ts, kvs, tb, rfl, oc, ot, otb, rfl⟩, q⟩ := h
    obtain ⟨v0, v1, v2, rfl, r0, r1, r2⟩ := ra.three
    refine ⟨_, (pss_cons (ps_set (i := 3) sc_all_open.nd rfl (by first | exact Or.inl rfl | exact Or.inr rfl) (pe_lst pa_nil))
    (pss_cons (ps_for PassesOwn.never rfl (pi_range1 (by rfl) T.n_range (pa_cons (pe_callB (call_lenK K rfl) (by rfl) T.n_len (by decide +kernel) (pa_cons (pv 1) pa_nil)) pa_nil)) (pg_name (i := 4) sc_all_open.nd rfl (by first | exact Or.inl rfl | exact Or.inr rfl)) (pss_one (ps_expr (pe_bm PySem.F.plainAttrs_list PySem.F.slot_list_extend PySem.F.type_list_extend mt_extend (pv 3) (pa_cons (pe_lc (own := [("trial", 5)]) (g := gName 5) (tt := tYes) rfl sc_all_open.nd (pi_seqK K rfl (pe_fn d_open_trials (hr.mono (by decide)) (by rfl) (pa_cons (pv 0) (pa_cons (pv 1) (pa_cons (pv 2) (pa_cons (pv 4) pa_nil)))))) (blkOk_by (own := [("trial", 5)]) (N := N_all_open) (sc := defScope s_all_open) (by decide +kernel)) (fun _ _ _ _ _ => (pg_name (i := 5) sc_all_open.nd rfl (by first | exact Or.inl rfl | exact Or.inr rfl))) (fun _ _ _ _ _ => pts_nil) (fun _ _ _ _ _ => (pe_tup (pa_cons (pv 4) (pa_cons (pv 5) pa_nil))))) pa_nil)))))
    (pss_one (ps_ret (pv 3))))), ?_⟩
    try dsimp only [cxOf, Cx.nox, Cx.wish]
    have hlen := ot.len
    refine q_newL e fun p H1 hp gp s1 hx => ?_
    refine q_for (n := ts.length) (js := [4]) (E := fun i => [.int i]) s1
      (i_rng1' (e_len (d := trsD ts) (by walk_at "ev") (congrArg some (List.length_map _))) (by omega)) (fun i hi => g_name)
      (fun i σ' G' H' => G' p = none ∧ (∃ xs, H' p = some (.lst xs) ∧ RpA K G' xs ((openUpTo c ts tb i).map prD)) ∧ ∃ w4 w5, σ' = [some v0, some v1, some v2, some (.ref p), w4, w5])
      (fun G3 H3 s3 => ⟨(s3.keep gp hx).1, ⟨_, (s3.keep gp hx).2, .nil⟩, none, none, rfl⟩) ?_ ?_
    · rintro Gw ew i hi σ' G' H' S' ew' ⟨g', ⟨xs, x', rx⟩, w4, w5, rfl⟩ G3 H3 us s3 ru
      obtain ⟨a, rfl, ra⟩ := ru.one
      cases ra
      have e3 : Ex G G3 := ew.trans (ew'.trans s3.g)
      obtain ⟨g3, x3⟩ := s3.keep g' x'
      have r0 := r0.ex e3
      have r1 := r1.ex e3
      have r2 := r2.ex e3
      have hlx : xs.length = (openUpTo c ts tb i).length := by rw [rx.len, List.length_map]
      have hl1 := openUpTo_len oc ot tb (i := i) (by omega)
      have hl2 := openTr_len oc ot tb hi
      refine s_ext (ds := ((openTr c ts tb i).map fun t => (i, t)).map prD) s3.i g3 x3 rfl (EvD.eq (EvF.toD (f_lcm (xs := openTr c ts tb i) (Y := nth ((openTr c ts tb i).map natD)) (js := [5]) (fun _ t => [natD t]) (fun _ => true) (fun t => prD (i, t))
        (i_seqL' (List.length_map _) (EvF.toD (f_call (K := K) (a_cons (e_var rfl r0) (a_cons (e_var rfl r1) (a_cons (e_var rfl r2) (a_one (e_var rfl (.int _)))))) ⟨c, ts, kvs, tb, i, rfl, oc, ot, otb, hi, rfl⟩)))
        (fun i x hx => by rw [nth_map hx]; exact g_name) (by omega) (fun _ _ _ => rfl) (fun us h => match us, h with | [_], _ => rfl) (fun _ _ _ _ _ _ _ => b_yes) (fun j x hx _ G4 e4 us ru => ?_))) ?_) (by rw [List.length_map, List.length_map]; omega) fun ys G4 H4 s4 g4 ry => ?_
      · obtain ⟨y, rfl, ry⟩ := ru.one
        exact e_tup2 (e_var rfl (.int _)) (e_var rfl ry)
      · rw [List.filter_eq_self.mpr (fun _ _ => rfl), List.map_map]
        rfl
      · refine ⟨G4, ((S'.trans s3).trans s4).mut hp g4, ew'.trans (s3.g.trans s4.g), g4, ⟨_, upd_same, ?_⟩, _, _, rfl⟩
        rw [openUpTo_succ, List.map_append]
        exact (rx.ex (s3.g.trans s4.g)).app ry
    · rintro σ' G' H' S' ew ⟨g', ⟨xs, x', rx⟩, w4, w5, rfl⟩
      exact ⟨_, rfl, q p xs G' H' S' hp g' x' rx⟩

end

section
variable [Tbs] {P : Program} {w : World} {K : PySem.W.Frag} {mg : Str → Option Value} {base : Heap}
abbrev s_rank_of : Stmt := top 52
abbrev N_rank_of : List Str := ["score"]
abbrev P_rank_of : List Str := ["score"]
theorem sc_rank_of : FnScope N_rank_of P_rank_of (defScope s_rank_of) := ⟨rfl, rfl, rfl, by decide +kernel, rfl, by decide +kernel, by decide +kernel⟩

/-- scores as lists of whole numbers -/
def scD (s : List Int) : D := .tup (s.map D.int)
def rankL (s : List Int) : List Int := (0 - s.headD 0) :: s.tail
def ScOk (s : List Int) : Prop := s ≠ [] ∧ s.length ≤ 10
theorem e_tail {σ : L2.St} {G : Hp} {te : TE} {s : List Int} (h : EvD K te σ G (scD s)) (hs : s ≠ []) : EvD K (tSl (rSlA K) te (tPart (tC (.int 1))) tNoPart) σ G (scD s.tail) := by
  refine e_slT h (p_some (e_int (K := K))) p_none ?_ ?_
  · rintro ⟨z, _⟩
    have e : HT.sIx (s.map D.int).length 0 (some (1 : Int)) = min 1 (s.map D.int).length := HT.sIx_nat _ _ 1
    rw [e, List.length_map] at z
    have : 0 < s.length := List.length_pos_iff.mpr hs
    omega
  · cases s with
    | nil => exact absurd rfl hs
    | cons a s =>
      unfold cutD
      have e : HT.sIx ((a :: s).map D.int).length 0 (some (1 : Int)) = min 1 ((a :: s).map D.int).length := HT.sIx_nat _ _ 1
      rw [e, HT.sIx_none, List.length_map, List.length_cons]
      have e2 : min 1 (s.length + 1) = 1 := by omega
      rw [e2]
      show List.take (s.length + 1 - 1) (s.map D.int) = s.map D.int
      rw [List.take_of_length_le (by rw [List.length_map]; omega)]
def R_rank_of (ds : List D) (r : D) : Prop := ∃ s, ds = [scD s] ∧ ScOk s ∧ r = scD (rankL s)
abbrev sp_rank_of (K : PySem.W.Frag) : Sp := spP K R_rank_of
theorem ok_rank_of {f : Addr} {fd : FuncData} (F : Fun K "rank_of" "rank_of" s_rank_of f fd) (T : Tx K mg) : FnOk P w K mg base CX0 1 f fd P_rank_of (sp_rank_of K) := by
  refine F.ok sc_rank_of (fun vs H Q E h => ?_) (fun cdv A outer s H vs Q E hr h => ?_)
  · obtain ⟨G, ds, r, e, ra, ⟨s, rfl, hs, rfl⟩, q⟩ := h
    exact ra.len
  · obtain ⟨G, ds, r, e, ra, ⟨s, rfl, hs, rfl⟩, q⟩ := h
    obtain ⟨v0, rfl, r0⟩ := ra.one
    refine ⟨_, (pss_one (ps_ret (pe_op (op_addK K rfl) (pe_tup (pa_cons (pe_op op_sub pe_int (pe_ix (ix_seqK K rfl) (pv 0) pe_int (fun _ _ => rfl))) pa_nil)) (pe_slice (sl_seqK K rfl) (pv 0) (po_some pe_int) po_none)))), ?_⟩
    try dsimp only [cxOf, Cx.nox, Cx.wish]
    refine s_ret (K := K) (d := scD (rankL s)) e ?_ q
    cases s with
    | nil => exact absurd rfl hs.1
    | cons a s =>
      have hl := hs.2
      rw [List.length_cons] at hl
      refine e_catT0 (ds := [.int (0 - a)]) (es := s.map D.int) (e_tup1 (e_sub e_int (e_ix (d1 := scD (a :: s)) (e_var rfl r0) e_int (at_mapT (k := 0) rfl)))) (e_tail (s := a :: s) (e_var rfl r0) (fun z => nomatch z)) (fun z => nomatch z) (by rw [List.length_map]; show 1 + s.length ≤ _; omega)

end

section
variable [Tbs] {P : Program} {w : World} {K : PySem.W.Frag} {mg : Str → Option Value} {base : Heap}
abbrev s_placed : Stmt := top 53
abbrev N_placed : List Str := ["scores", "ranks", "found", "team", "score", "rank"]
abbrev P_placed : List Str := ["scores"]
theorem sc_placed : FnScope N_placed P_placed (defScope s_placed) := ⟨rfl, rfl, rfl, by decide +kernel, rfl, by decide +kernel, by decide +kernel⟩

abbrev Row := Nat × Nat × List Int
def rowD (r : Row) : D := .tup [.int r.1, .int r.2.1, scD r.2.2]
def scAt (ss : List (List Int)) (t : Nat) : List Int := ss.getD t []
def placeOf (ss : List (List Int)) (t : Nat) : Nat := 1 + (ss.filter fun s => HT.lexLt (rankL s) (rankL (scAt ss t))).length
def rowsOf (ss : List (List Int)) (n : Nat) : List Row := (List.range n).map fun t => (placeOf ss t, t, scAt ss t)
abbrev rowKey (r : Row) : Nat × Nat := (r.1, r.2.1)
def placedL (ss : List (List Int)) : List Row := (rowsOf ss ss.length).mergeSort (rowLe rowKey)
theorem sc_at {ss : List (List Int)} {t : Nat} (h : t < ss.length) : ss[t]? = some (scAt ss t) := by
  unfold scAt
  rw [List.getD_eq_getElem?_getD, List.getElem?_eq_getElem h]
  rfl
def R_placed (ds : List D) (r : List D) : Prop := ∃ ss : List (List Int), ds = [.lst (ss.map scD)] ∧ (∀ s ∈ ss, ScOk s) ∧ ss.length ≤ 1000 ∧ r = (placedL ss).map rowD
abbrev sp_placed (K : PySem.W.Frag) : Sp := spFm K R_placed
theorem ok_placed {f cd : Addr} {fd : FuncData} (F : FunL K "placed" "placed" s_placed f fd cd) (TB : LamX.TabB base mg cd Tbs.p1) (hq : ("placed" : Str) ++ ".<locals>." ++ "<lambda>" = Tbs.q Tbs.p1) (T : Tx K mg) (d_rank_of : Dk P w K mg base 1 "rank_of" P_rank_of (sp_rank_of K)) : FnOk P w K mg base CX0 2 f fd P_placed (sp_placed K) := by
  refine F.ok sc_placed (fun vs H Q E h => ?_) (fun A outer s H vs Q E hr h => ?_)
  · obtain ⟨G, ds, r, e, mk, ra, ⟨ss, rfl, hok, hlen, rfl⟩, q⟩ := h
    exact ra.len
  · obtain ⟨G, ds, r, e, mk, ra, ⟨ss, rfl, hok, hlen, rfl⟩, q⟩ := h
    obtain ⟨v0, rfl, r0⟩ := ra.one
    refine ⟨_, (pss_cons (ps_set (i := 1) sc_placed.nd rfl (by first | exact Or.inl rfl | exact Or.inr rfl) (pe_lc (own := [("score", 4)]) (g := gName 4) (tt := tYes) rfl sc_placed.nd (pi_seqK K rfl (pv 0)) (blkOk_by (own := [("score", 4)]) (N := N_placed) (sc := defScope s_placed) (by decide +kernel)) (fun _ _ _ _ _ => (pg_name (i := 4) sc_placed.nd rfl (by first | exact Or.inl rfl | exact Or.inr rfl))) (fun _ _ _ _ _ => pts_nil) (fun _ _ _ _ _ => (pe_fn d_rank_of (hr.mono (by decide)) (by rfl) (pa_cons (pv 4) pa_nil)))))
    (pss_cons (ps_set (i := 2) sc_placed.nd rfl (by first | exact Or.inl rfl | exact Or.inr rfl) (pe_lst pa_nil))
    (pss_cons (ps_for PassesOwn.never rfl (pi_enK K rfl (by rfl) T.n_enumerate (pa_cons (pv 0) pa_nil)) (pg_tup rfl (pgs_cons (pg_name (i := 3) sc_placed.nd rfl (by first | exact Or.inl rfl | exact Or.inr rfl)) (pgs_cons (pg_name (i := 4) sc_placed.nd rfl (by first | exact Or.inl rfl | exact Or.inr rfl)) pgs_nil))) (pss_one (ps_expr (pe_bm PySem.F.plainAttrs_list PySem.F.slot_list_append PySem.F.type_list_append mt_append (pv 2) (pa_cons (pe_tup (pa_cons (pe_op (op_addK K rfl) pe_int (pe_callB (call_lenK K rfl) (by rfl) T.n_len (by decide +kernel) (pa_cons (pe_lc (own := [("rank", 5)]) (g := gName 5) (tt := _) rfl sc_placed.nd (pi_seqK K rfl (pv 1)) (blkOk_by (own := [("rank", 5)]) (N := N_placed) (sc := defScope s_placed) (by decide +kernel)) (fun _ _ _ _ _ => (pg_name (i := 5) sc_placed.nd rfl (by first | exact Or.inl rfl | exact Or.inr rfl))) (fun _ _ _ _ _ => (pts_one (pt_cmpR (op_ltK K rfl hr.units0) (pv 5) (pe_ix (ix_seqK K rfl) (pv 1) (pv 3) (fun _ _ => rfl)) (nomark _)))) (fun _ _ _ _ _ => (pv 5))) pa_nil))) (pa_cons (pv 3) (pa_cons (pv 4) pa_nil)))) pa_nil)))))
    (pss_one (ps_ret (pe_sortedK' K rfl hq (by rfl) T.n_sorted (by decide +kernel) (pv 2) hr TB rfl kb_cut)))))), ?_⟩
    try dsimp only [cxOf, Cx.nox, Cx.wish]
    have hsl : (ss.map scD).length = ss.length := List.length_map _
    refine q_asg (K := K) (d := .lst ((ss.map rankL).map scD)) e (EvD.eq (EvF.toD (f_lcm (xs := ss) (Y := nth (ss.map scD)) (js := [4]) (fun _ s => [scD s]) (fun _ => true) (fun s => scD (rankL s))
      (i_seqL' hsl (by walk_at "ev")) (fun i x hx => by rw [nth_map hx]; exact g_name) (by omega) (fun _ _ _ => rfl) (fun us h => match us, h with | [_], _ => rfl) (fun _ _ _ _ _ _ _ => b_yes) (fun i x hx _ G5 e5 us ru => ?_))) ?_) fun v1 G1 H1 s1 r1 => ?_
    · obtain ⟨y, rfl, ry⟩ := ru.one
      exact e_call (a_one (e_var rfl ry)) ⟨x, rfl, hok x (List.mem_of_getElem? hx), rfl⟩
    · rw [List.filter_eq_self.mpr (fun _ _ => rfl), List.map_map]
      rfl
    refine q_newL s1.i fun p H2 hp gp s2 hx => ?_
    have S2 := s1.trans s2
    have hp0 := s1.pre hp
    refine q_for (K := K) (n := ss.length) (js := [3, 4]) (E := fun i => [.int i, nth (ss.map scD) i]) S2 (i_enL' hsl (e_var rfl (r0.ex s1.g))) (fun i hi => g_two)
      (fun i σ' G' H' => G' p = none ∧ (∃ xs, H' p = some (.lst xs) ∧ RpA K G' xs ((rowsOf ss i).map rowD)) ∧ ∃ w3 w4 w5, σ' = [some v0, some v1, some (.ref p), w3, w4, w5])
      (fun G3 H3 s3 => ⟨(s3.keep gp hx).1, ⟨_, (s3.keep gp hx).2, .nil⟩, _, _, _, rfl⟩) ?_ ?_
    · rintro Gw ew i hi σ' G' H' S' ew' ⟨g', ⟨xs, x', rx⟩, w3, w4, w5, rfl⟩ G3 H3 us s3 ru
      obtain ⟨a, b, rfl, ra, rb⟩ := ru.two
      cases ra
      have e3 : Ex G1 G3 := ew.trans (ew'.trans s3.g)
      obtain ⟨g3, x3⟩ := s3.keep g' x'
      have r1 := r1.ex e3
      rw [nth_map (sc_at hi)] at rb
      have hxl : xs.length = i := by rw [rx.len, List.length_map]; unfold rowsOf; rw [List.length_map, List.length_range]
      have hrl : ((ss.filter fun s => HT.lexLt (rankL s) (rankL (scAt ss i))).map fun s => scD (rankL s)).length = (ss.filter fun s => HT.lexLt (rankL s) (rankL (scAt ss i))).length := List.length_map _
      have hrk : (ss.map rankL)[i]? = some (rankL (scAt ss i)) := by rw [List.getElem?_map, sc_at hi]; rfl
      refine s_app (K := K) (d := rowD (placeOf ss i, i, scAt ss i)) s3.i g3 x3 rfl (e_tup3 (EvD.int (e_addI e_int (e_len (n := (ss.filter fun s => HT.lexLt (rankL s) (rankL (scAt ss i))).length) (EvF.toD (f_lcm (xs := ss) (Y := nth ((ss.map rankL).map scD)) (js := [5]) (fun _ s => [scD (rankL s)]) (fun s => HT.lexLt (rankL s) (rankL (scAt ss i))) (fun s => scD (rankL s))
        (i_seqL' (by rw [List.length_map, List.length_map]) (e_var rfl r1)) (fun j x hx => by rw [List.map_map, nth_map hx]; exact g_name) (by omega) (fun _ _ _ => rfl) (fun us h => match us, h with | [_], _ => rfl) (fun j x hx G5 e5 us ru => ?_) (fun j x hx _ G5 e5 us ru => ?_))) (congrArg some hrl))) ?_) (e_var rfl (.int _)) (e_var rfl rb)) (by omega) fun v G4 H4 s4 g4 rv => ?_
      · obtain ⟨y, rfl, ry⟩ := ru.one
        exact b_test (e_ltT (ns := rankL x) (ms := rankL (scAt ss i)) (e_var rfl ry) (e_ix (d1 := .lst ((ss.map rankL).map scD)) (i := (i : Nat)) (e_var rfl (r1.ex e5)) (e_var rfl (.int _)) (at_mapL hrk)) rfl rfl)
      · obtain ⟨y, rfl, ry⟩ := ru.one
        exact e_var rfl ry
      · unfold placeOf
        omega
      · refine ⟨G4, ((S'.trans s3).trans s4).mut hp0 g4, ew'.trans (s3.g.trans s4.g), g4, ⟨_, upd_same, ?_⟩, _, _, _, rfl⟩
        unfold rowsOf
        rw [List.range_succ, List.map_append, List.map_append]
        exact (rx.ex (s3.g.trans s4.g)).snoc rv
    · rintro σ' G' H' S' ew ⟨g', ⟨xs, x', rx⟩, w3, w4, w5, rfl⟩
      have S3 := S'.freeze hp0 g' x'
      have hrows : (rowsOf ss ss.length).length = ss.length := by unfold rowsOf; rw [List.length_map, List.length_range]
      refine s_retF (K := K) S3.i (f_sortedK (f := rowD) (key := rowKey) (y := fun r => scD r.2.2) (rest := fun _ => []) (e_var rfl (.lst upd_same (rx.ex (Ex.new g')))) ((mk.1.ex S3.g)) (fun _ => rfl) (by omega)) fun l ys G4 H4 s4 h1 h2 h3 ry => ?_
      exact q l ys G4 H4 (S3.trans s4) (S3.pre h1) h2 h3 ry

end

section
variable [Tbs] {P : Program} {w : World} {K : PySem.W.Frag} {mg : Str → Option Value} {base : Heap}
abbrev s_solved_at : Stmt := top 48
abbrev N_solved_at : List Str := ["contest", "tries", "table", "numbers", "wrong", "number", "state", "team", "task", "time"]
abbrev P_solved_at : List Str := ["contest", "tries", "table", "numbers"]
theorem sc_solved_at : FnScope N_solved_at P_solved_at (defScope s_solved_at) := ⟨rfl, rfl, rfl, by decide +kernel, rfl, by decide +kernel, by decide +kernel⟩

def lateAt (c : Con) (t : Try) : Bool := decide (c.due t.2.1 ≤ t.2.2)
def solvedFrom (c : Con) (ts : List Try) (tb : Nat → Nat → Option Bool) : Nat → List Nat → Option (Nat × Nat)
  | _, [] => none
  | w, n :: ns => if tSt c ts tb n = .passed then some ((tryAt ts n).2.2 + 20 * w + 60 * (lateAt c (tryAt ts n)).toNat, (tryAt ts n).2.2) else solvedFrom c ts tb (w + (decide (tSt c ts tb n = .failed)).toNat) ns
theorem solved_cons (c : Con) (ts : List Try) (tb : Nat → Nat → Option Bool) (w n : Nat) (ns : List Nat) : solvedFrom c ts tb w (n :: ns) = if tSt c ts tb n = .passed then some ((tryAt ts n).2.2 + 20 * w + 60 * (lateAt c (tryAt ts n)).toNat, (tryAt ts n).2.2) else solvedFrom c ts tb (w + (decide (tSt c ts tb n = .failed)).toNat) ns := rfl
def solD : Option (Nat × Nat) → D
  | none => .non
  | some x => .tup [.int x.1, .int x.2]
def R_solved_at (ds : List D) (r : D) : Prop := ∃ (c : Con) (ts : List Try) (kvs : List (List Key × V)) (tb : Nat → Nat → Option Bool) (ns : List Nat), ds = [c.d, trsD ts, .tab kvs, .lst (ns.map natD)] ∧ c.Ok ∧ TriesOk c ts ∧ TabOk kvs tb ∧ (∀ n ∈ ns, n < ts.length) ∧ ns.length ≤ 200 ∧ r = solD (solvedFrom c ts tb 0 ns)
abbrev sp_solved_at (K : PySem.W.Frag) : Sp := spP K R_solved_at
theorem ok_solved_at {f : Addr} {fd : FuncData} (F : Fun K "solved_at" "solved_at" s_solved_at f fd) (T : Tx K mg) (d_try_state : Dk P w K mg base 3 "try_state" P_try_state (sp_try_state K)) : FnOk P w K mg base CX0 4 f fd P_solved_at (sp_solved_at K) := by
  refine F.ok sc_solved_at (fun vs H Q E h => ?_) (fun cdv A outer s H vs Q E hr h => ?_)
  · obtain ⟨G, ds, r, e, ra, ⟨c, ts, kvs, tb, ns, rfl, oc, ot, otb, hns, hlen, rfl⟩, q⟩ := h
    exact ra.len
  · obtain ⟨G, ds, r, e, ra, ⟨c, ts, kvs, tb, ns, rfl, oc, ot, otb, hns, hlen, rfl⟩, q⟩ := h
    obtain ⟨v0, v1, v2, v3, rfl, r0, r1, r2, r3⟩ := ra.four
    refine ⟨_, (pss_cons (ps_set (i := 4) sc_solved_at.nd rfl (by first | exact Or.inl rfl | exact Or.inr rfl) pe_int)
    (pss_cons (ps_for PassesOwn.never rfl (pi_seqK K rfl (pv 3)) (pg_name (i := 5) sc_solved_at.nd rfl (by first | exact Or.inl rfl | exact Or.inr rfl)) (pss_cons (ps_set (i := 6) sc_solved_at.nd rfl (by first | exact Or.inl rfl | exact Or.inr rfl) (pe_fn d_try_state (hr.mono (by decide)) (by rfl) (pa_cons (pv 0) (pa_cons (pv 1) (pa_cons (pv 2) (pa_cons (pv 5) pa_nil))))))
    (pss_cons (ps_asg (pe_ix (ix_seqK K rfl) (pv 1) (pv 5) (fun _ _ => rfl)) (pg_tup rfl (pgs_cons (pg_name (i := 7) sc_solved_at.nd rfl (by first | exact Or.inl rfl | exact Or.inr rfl)) (pgs_cons (pg_name (i := 8) sc_solved_at.nd rfl (by first | exact Or.inl rfl | exact Or.inr rfl)) (pgs_cons (pg_name (i := 9) sc_solved_at.nd rfl (by first | exact Or.inl rfl | exact Or.inr rfl)) pgs_nil)))))
    (pss_cons (ps_if (pt_cmpR (op_eqK K rfl hr.units) (pv 6) (pe_gS rfl T.c_PASSED) (nomark _)) (pss_one (ps_ret (pe_tup (pa_cons (pe_op (op_addK K rfl) (pe_op (op_addK K rfl) (pv 9) (pe_op op_mulA (pe_gI rfl T.c_WRONG) (pv 4))) (pe_op op_mulA (pe_gI rfl T.c_LATE) (pe_callTy call_int1 (by rfl) T.n_int (by decide +kernel) (pa_cons (pe_cmpR op_ge (pv 9) (pe_ix (ix_seqK K rfl) (pe_ix (ix_seqK K rfl) (pe_ix (ix_seqK K rfl) (pv 0) pe_int (fun _ _ => rfl)) (pv 8) (fun _ _ => rfl)) pe_int (fun _ _ => rfl)) (nomark _)) pa_nil)))) (pa_cons (pv 9) pa_nil))))) pss_nil)
    (pss_one (ps_set (i := 4) sc_solved_at.nd rfl (by first | exact Or.inl rfl | exact Or.inr rfl) (pe_op (op_addK K rfl) (pv 4) (pe_callTy call_int1 (by rfl) T.n_int (by decide +kernel) (pa_cons (pe_cmpR (op_eqK K rfl hr.units) (pv 6) (pe_gS rfl T.c_FAILED) (nomark _)) pa_nil)))))))))
    (pss_one (ps_ret pe_non)))), ?_⟩
    try dsimp only [cxOf, Cx.nox, Cx.wish]
    have hnl : (ns.map natD).length = ns.length := List.length_map _
    refine q_asgC ?_
    refine q_for (K := K) (n := ns.length) (js := [5]) (E := fun i => [nth (ns.map natD) i]) (Step.refl e) (i_seqL' hnl (by walk_at "ev")) (fun i hi => g_name)
      (fun i σ' G' H' => ∃ w : Nat, solvedFrom c ts tb 0 ns = solvedFrom c ts tb w (ns.drop i) ∧ w ≤ i ∧ ∃ w5 w6 w7 w8 w9, σ' = [some v0, some v1, some v2, some v3, some (.int w), w5, w6, w7, w8, w9])
      (fun G1 H1 s1 => ⟨0, rfl, Nat.le_refl _, _, _, _, _, _, rfl⟩) ?_ ?_
    · rintro Gw ew i hi σ' G' H' S' ew' ⟨w, hw, hwi, w5, w6, w7, w8, w9, rfl⟩ G1 H1 us s1 ru
      obtain ⟨a, rfl, ra⟩ := ru.one
      have hni : ns[i]? = some ns[i] := List.getElem?_eq_getElem hi
      rw [nth_map hni] at ra
      have hn : ns[i] < ts.length := hns _ (List.getElem_mem hi)
      generalize hnn : ns[i] = n at hni ra hn
      have hdrop : ns.drop i = n :: ns.drop (i + 1) := by rw [← hnn]; exact List.drop_eq_getElem_cons hi
      rw [hdrop] at hw
      have hk := try_at hn
      have ok := ot.at hn
      have S1 := S'.trans s1
      have e1 : Ex G G1 := S1.g
      have r0 := r0.ex e1
      have r1 := r1.ex e1
      have r2 := r2.ex e1
      refine q_asg (K := K) (d := stD (tSt c ts tb n)) S1.i (e_call (a_cons (by walk_at "ev") (a_cons (by walk_at "ev") (a_cons (by walk_at "ev") (a_one (e_var rfl ra))))) ⟨c, ts, kvs, tb, n, rfl, oc, ot, otb, hn, rfl⟩) fun v6 G2 H2 s2 r6 => ?_
      have S2 := S1.trans s2
      have r0 := r0.ex s2.g
      have r1 := r1.ex s2.g
      refine q_asgT (K := K) S2.i (d := trD (tryAt ts n)) (js := [7, 8, 9]) (es := [.int (tryAt ts n).1, .int (tryAt ts n).2.1, .int (tryAt ts n).2.2]) (e_ix (d1 := trsD ts) (i := n) (by walk_at "ev") (e_var rfl (ra.flat_any rfl)) (at_mapL hk)) g_three fun us G3 H3 s3 ru => ?_
      obtain ⟨v7, v8, v9, rfl, r7, r8, r9⟩ := ru.three
      have S3 := S2.trans s3
      have r0 := r0.ex s3.g
      have r6 := r6.ex s3.g
      have hc := Con.task_at ok.task
      have hlate : ∀ (G4 : Hp), Ex G3 G4 → EvD K (tOp (rI0 fun i j => .bl (decide (j ≤ i))) (tVar 9) (tOp (rIx K) (tOp (rIx K) (tOp (rIx K) (tVar 0) (tC (.int 4))) (tVar 8)) (tC (.int 1)))) [some v0, some v1, some v2, some v3, some (.int w), some a, some v6, some v7, some v8, some v9] G4 (.bl (lateAt c (tryAt ts n))) := fun G4 e4 =>
        EvD.bl (e_ge (i := (tryAt ts n).2.2) (j := c.due (tryAt ts n).2.1) (e_var rfl (r9.ex e4)) (e_ix (d1 := tkD (c.task (tryAt ts n).2.1)) (e_ix (d1 := .tup (c.tasks.map tkD)) (i := ((tryAt ts n).2.1 : Nat)) (e_ix (d1 := c.d) (e_var rfl (r0.ex e4)) e_int rfl) (e_var rfl (r8.ex e4)) (at_mapT hc)) e_int rfl)) (dec_iff Int.ofNat_le)
      refine q_when (b := decide (tSt c ts tb n = .passed)) S3.i (b_test (K := K) (EvD.bl (e_eq (d1 := stD (tSt c ts tb n)) (d2 := stD .passed) (e_var rfl r6) e_str rfl) (st_eq _ _))) (fun hb G4 H4 s4 => ?_) (fun hb G4 H4 s4 => ?_)
      · have hb := of_decide_eq_true hb
        rw [solved_cons, if_pos hb] at hw
        rw [hw] at q
        refine s_ret (K := K) (S3.trans s4).i (d := solD (some ((tryAt ts n).2.2 + 20 * w + 60 * (lateAt c (tryAt ts n)).toNat, (tryAt ts n).2.2))) (e_tup2 (EvD.int (e_addI (e_addI (e_var rfl (r9.ex s4.g)) (e_mulI (e_int (i := 20)) (e_var rfl (.int _)) (.inl ⟨by omega, by omega⟩))) (e_mulI (e_int (i := 60)) (e_int1b (hlate G4 s4.g)) (.inl ⟨by omega, by omega⟩))) ?_) (e_var rfl (r9.ex s4.g))) fun v G5 H5 s5 r5 => q v G5 H5 ((S3.trans s4).trans s5) r5
        cases lateAt c (tryAt ts n) <;> simp <;> omega
      · have hb := of_decide_eq_false hb
        rw [solved_cons, if_neg hb] at hw
        refine s_asg (K := K) (S3.trans s4).i (d := .int ((w + (decide (tSt c ts tb n = .failed)).toNat : Nat) : Int)) (EvD.int (e_addI (i := (w : Int)) (e_var rfl (.int _)) (e_int1b (EvD.bl (e_eq (d1 := stD (tSt c ts tb n)) (d2 := stD .failed) (e_var rfl (r6.ex s4.g)) e_str rfl) (st_eq _ _)))) ?_) fun v G5 H5 s5 r5 => ?_
        · cases decide (tSt c ts tb n = .failed) <;> simp
        · cases r5
          have hle : (decide (tSt c ts tb n = .failed)).toNat ≤ 1 := Bool.toNat_le _
          exact ⟨G5, (S3.trans s4).trans s5, ew'.trans (s1.g.trans (s2.g.trans (s3.g.trans (s4.g.trans s5.g)))), _, hw, by omega, _, _, _, _, _, rfl⟩
    · rintro σ' G' H' S' ew ⟨w, hw, hwi, w5, w6, w7, w8, w9, rfl⟩
      rw [List.drop_length] at hw
      rw [hw] at q
      exact q .non G' H' S' .non

end

section
variable [Tbs] {P : Program} {w : World} {K : PySem.W.Frag} {mg : Str → Option Value} {base : Heap}
abbrev s_worth_of : Stmt := top 49
abbrev N_worth_of : List Str := ["contest", "tries", "number", "points", "team", "task", "time"]
abbrev P_worth_of : List Str := ["contest", "tries", "number", "points"]
theorem sc_worth_of : FnScope N_worth_of P_worth_of (defScope s_worth_of) := ⟨rfl, rfl, rfl, by decide +kernel, rfl, by decide +kernel, by decide +kernel⟩

def worth (c : Con) (t : Try) (p : Nat) : Nat := if lateAt c t = true then p / 2 else p
def R_worth_of (ds : List D) (r : D) : Prop := ∃ (c : Con) (ts : List Try) (n p : Nat), ds = [c.d, trsD ts, .int n, .int p] ∧ c.Ok ∧ TriesOk c ts ∧ n < ts.length ∧ r = .int (worth c (tryAt ts n) p)
abbrev sp_worth_of (K : PySem.W.Frag) : Sp := spP K R_worth_of
theorem ok_worth_of {f : Addr} {fd : FuncData} (F : Fun K "worth_of" "worth_of" s_worth_of f fd) (T : Tx K mg) : FnOk P w K mg base CX0 1 f fd P_worth_of (sp_worth_of K) := by
  refine F.ok sc_worth_of (fun vs H Q E h => ?_) (fun cdv A outer s H vs Q E hr h => ?_)
  · obtain ⟨G, ds, r, e, ra, ⟨c, ts, n, p, rfl, oc, ot, hn, rfl⟩, q⟩ := h
    exact ra.len
  · obtain ⟨G, ds, r, e, ra, ⟨c, ts, n, p, rfl, oc, ot, hn, rfl⟩, q⟩ := h
    obtain ⟨v0, v1, v2, v3, rfl, r0, r1, r2, r3⟩ := ra.four
    refine ⟨_, (pss_cons (ps_asg (pe_ix (ix_seqK K rfl) (pv 1) (pv 2) (fun _ _ => rfl)) (pg_tup rfl (pgs_cons (pg_name (i := 4) sc_worth_of.nd rfl (by first | exact Or.inl rfl | exact Or.inr rfl)) (pgs_cons (pg_name (i := 5) sc_worth_of.nd rfl (by first | exact Or.inl rfl | exact Or.inr rfl)) (pgs_cons (pg_name (i := 6) sc_worth_of.nd rfl (by first | exact Or.inl rfl | exact Or.inr rfl)) pgs_nil)))))
    (pss_one (ps_ret (pe_ifExp (pt_cmpR op_ge (pv 6) (pe_ix (ix_seqK K rfl) (pe_ix (ix_seqK K rfl) (pe_ix (ix_seqK K rfl) (pv 0) pe_int (fun _ _ => rfl)) (pv 5) (fun _ _ => rfl)) pe_int (fun _ _ => rfl)) (nomark _)) (pe_op op_fdiv (pv 3) pe_int) (pv 3))))), ?_⟩
    try dsimp only [cxOf, Cx.nox, Cx.wish]
    have hk := try_at hn
    have ok := ot.at hn
    have hc := Con.task_at ok.task
    refine q_asgT (K := K) e (d := trD (tryAt ts n)) (js := [4, 5, 6]) (es := [.int (tryAt ts n).1, .int (tryAt ts n).2.1, .int (tryAt ts n).2.2]) (e_ix (d1 := trsD ts) (i := n) (by walk_at "ev") (by walk_at "ev") (at_mapL hk)) g_three fun us G1 H1 s1 ru => ?_
    obtain ⟨v4, v5, v6, rfl, r4, r5, r6⟩ := ru.three
    have r0 := r0.ex s1.g
    have r3 : Rp K G1 v3 (.int p) := r3.flat_any rfl
    refine s_ret (K := K) s1.i (d := .int (worth c (tryAt ts n) p)) (e_if (a := lateAt c (tryAt ts n)) (b_test (EvD.bl (e_ge (i := (tryAt ts n).2.2) (j := c.due (tryAt ts n).2.1) (e_var rfl r6) (e_ix (d1 := tkD (c.task (tryAt ts n).2.1)) (e_ix (d1 := .tup (c.tasks.map tkD)) (i := ((tryAt ts n).2.1 : Nat)) (e_ix (d1 := c.d) (e_var rfl r0) e_int rfl) (e_var rfl r5) (at_mapT hc)) e_int rfl)) (dec_iff Int.ofNat_le))) (fun h => ?_) (fun h => ?_)) fun v G2 H2 s2 rv => q v G2 H2 (s1.trans s2) rv
    · refine EvD.int (e_fdiv (i := (p : Int)) (e_var rfl r3) e_int ⟨by decide, by decide⟩) ?_
      unfold worth
      rw [if_pos h]
      omega
    · refine EvD.int (e_var rfl r3) ?_
      unfold worth
      rw [if_neg (by rw [h]; exact Bool.false_ne_true)]

end

section
variable [Tbs] {P : Program} {w : World} {K : PySem.W.Frag} {mg : Str → Option Value} {base : Heap}
abbrev s_points_at : Stmt := top 50
abbrev N_points_at : List Str := ["contest", "tries", "table", "numbers", "task", "groups", "best", "single", "number", "states", "passed", "g"]
abbrev P_points_at : List Str := ["contest", "tries", "table", "numbers", "task"]
theorem sc_points_at : FnScope N_points_at P_points_at (defScope s_points_at) := ⟨rfl, rfl, rfl, by decide +kernel, rfl, by decide +kernel, by decide +kernel⟩

theorem s_setOv {Dn : Ends} {σ : L2.St} {G H : Hp} {te : TE} {d : D} {p : Addr} {i ix j : Nat} {xs : List V} (e : Ex G H) (hp : G p = none) (hx : H p = some (.lst xs)) (hi : σ[i]? = some (some (.ref p))) (hix : σ[ix]? = some (some (.int j))) (h : EvD K te σ (upd G p (.lst xs)) d) (hf : d.flat = true) (hj : j < xs.length)
    (k : ∀ G1 H1, Step G H G1 H1 → G1 p = none → Dn.nx σ (upd H1 p (.lst (xs.set j d.toV)))) : tAsg te (gSub (tVar i) (tVar ix) rSetL) Dn σ H :=
  h H (ex_own e hx) _ fun v G1 H1 s r => by
    obtain ⟨G2, s2, g2, x2, _⟩ := s.thaw hp hx
    rw [(r.flat hf).1]
    exact ⟨_, hi, _, hix, p, xs, (j : Int), j, rfl, rfl, x2, Evl.ixN_nat hj, k G2 H1 s2 g2⟩
def passedG (gs : List (Nat × Nat)) (f : Nat → Option Bool) : List Nat := (List.range gs.length).filter fun g => decide (gSt gs f g = .passed)
def ptsOf (gs : List (Nat × Nat)) (l : List Nat) : Nat := (l.map fun g => (grp gs g).2).sum
/-- what try n is worth by its groups that passed -/
def bestN (c : Con) (ts : List Try) (tb : Nat → Nat → Option Bool) (gs : List (Nat × Nat)) (n : Nat) : Nat := worth c (tryAt ts n) (ptsOf gs (passedG gs (tb n)))
def bestU (c : Con) (ts : List Try) (tb : Nat → Nat → Option Bool) (gs : List (Nat × Nat)) (ns : List Nat) : Nat := ns.foldl (fun b n => max b (bestN c ts tb gs n)) 0
def singU (c : Con) (ts : List Try) (tb : Nat → Nat → Option Bool) (gs : List (Nat × Nat)) (ns : List Nat) (g : Nat) : Nat := ns.foldl (fun b n => if gSt gs (tb n) g = .passed then max b (worth c (tryAt ts n) (grp gs g).2) else b) 0
def pointsAt (c : Con) (ts : List Try) (tb : Nat → Nat → Option Bool) (k : Nat) (ns : List Nat) : Nat :=
  if c.rule = sBest then bestU c ts tb (c.groups k) ns else ((List.range (c.groups k).length).map (singU c ts tb (c.groups k) ns)).sum
def R_points_at (ds : List D) (r : D) : Prop := ∃ (c : Con) (ts : List Try) (kvs : List (List Key × V)) (tb : Nat → Nat → Option Bool) (ns : List Nat) (k : Nat), ds = [c.d, trsD ts, .tab kvs, .lst (ns.map natD), .int k] ∧ c.Ok ∧ TriesOk c ts ∧ TabOk kvs tb ∧ (∀ n ∈ ns, n < ts.length ∧ (tryAt ts n).2.1 = k) ∧ ns.length ≤ 200 ∧ k < c.tasks.length ∧ r = .int (pointsAt c ts tb k ns)
abbrev sp_points_at (K : PySem.W.Frag) : Sp := spP K R_points_at
theorem set_range {L j : Nat} {f : Nat → Nat} {v : Nat} : ((List.range L).map f).set j v = (List.range L).map fun g => if g = j then v else f g := by
  apply List.ext_getElem?
  intro i
  rw [List.getElem?_set, List.getElem?_map, List.getElem?_map, List.length_map, List.length_range]
  by_cases hi : i < L
  · rw [List.getElem?_range hi]
    by_cases hj : j = i
    · subst hj
      rw [if_pos rfl, if_pos hi]
      show some v = some (if j = j then v else f j)
      rw [if_pos rfl]
    · rw [if_neg hj]
      show some (f i) = some (if i = j then v else f i)
      rw [if_neg (Ne.symm hj)]
  · rw [List.getElem?_eq_none (by rw [List.length_range]; omega)]
    by_cases hj : j = i
    · rw [if_pos hj, if_neg (by omega)]; rfl
    · rw [if_neg hj]; rfl
theorem take_snoc {α : Type} {l : List α} {i : Nat} {a : α} (h : l[i]? = some a) : l.take (i + 1) = l.take i ++ [a] := by
  rw [List.take_add_one, h]
  rfl
theorem RpA.of_nats {H : Hp} {l : List Nat} {f : Nat → Nat} : RpA K H (l.map fun g => V.int (f g)) (l.map fun g => D.int (f g)) := by
  induction l with
  | nil => exact .nil
  | cons a l ih => exact .cons (.int _) ih
theorem foldl_snoc_max {α β : Type} (f : β → α → β) (b : β) (l : List α) (a : α) : (l ++ [a]).foldl f b = f (l.foldl f b) a := by rw [List.foldl_append]; rfl
theorem ok_points_at {f : Addr} {fd : FuncData} (F : Fun K "points_at" "points_at" s_points_at f fd) (T : Tx K mg) (d_group_states : Dk P w K mg base 2 "group_states" P_group_states (sp_group_states K)) (d_worth_of : Dk P w K mg base 1 "worth_of" P_worth_of (sp_worth_of K)) : FnOk P w K mg base CX0 3 f fd P_points_at (sp_points_at K) := by
  refine F.ok sc_points_at (fun vs H Q E h => ?_) (fun cdv A outer s H vs Q E hr h => ?_)
  · obtain ⟨G, ds, r, e, ra, ⟨c, ts, kvs, tb, ns, k, rfl, oc, ot, otb, hns, hlen, hk, rfl⟩, q⟩ := h
    exact ra.len
  · obtain ⟨G, ds, r, e, ra, ⟨c, ts, kvs, tb, ns, k, rfl, oc, ot, otb, hns, hlen, hk, rfl⟩, q⟩ := h
    obtain ⟨v0, v1, v2, v3, v4, rfl, r0, r1, r2, r3, r4⟩ := ra.five
    refine ⟨_, (pss_cons (ps_set (i := 5) sc_points_at.nd rfl (by first | exact Or.inl rfl | exact Or.inr rfl) (pe_ix (ix_seqK K rfl) (pe_ix (ix_seqK K rfl) (pe_ix (ix_seqK K rfl) (pv 0) pe_int (fun _ _ => rfl)) (pv 4) (fun _ _ => rfl)) pe_int (fun _ _ => rfl)))
    (pss_cons (ps_set (i := 6) sc_points_at.nd rfl (by first | exact Or.inl rfl | exact Or.inr rfl) pe_int)
    (pss_cons (ps_set (i := 7) sc_points_at.nd rfl (by first | exact Or.inl rfl | exact Or.inr rfl) (pe_op op_mulA (pe_lst (pa_cons pe_int pa_nil)) (pe_callB (call_lenK K rfl) (by rfl) T.n_len (by decide +kernel) (pa_cons (pv 5) pa_nil))))
    (pss_cons (ps_for PassesOwn.never rfl (pi_seqK K rfl (pv 3)) (pg_name (i := 8) sc_points_at.nd rfl (by first | exact Or.inl rfl | exact Or.inr rfl)) (pss_cons (ps_set (i := 9) sc_points_at.nd rfl (by first | exact Or.inl rfl | exact Or.inr rfl) (pe_fn d_group_states (hr.mono (by decide)) (by rfl) (pa_cons (pv 0) (pa_cons (pv 1) (pa_cons (pv 2) (pa_cons (pv 8) pa_nil))))))
    (pss_cons (ps_setLc (i := 10) (own := [("g", 11)]) (g := gName 11) (tt := _) rfl sc_points_at.nd rfl rfl (sw_true rfl rfl rfl (by decide +kernel)) (pi_range1 (by rfl) T.n_range (pa_cons (pe_callB (call_lenK K rfl) (by rfl) T.n_len (by decide +kernel) (pa_cons (pv 5) pa_nil)) pa_nil)) (blkOk_by (own := [("g", 11)]) (N := N_points_at) (sc := defScope s_points_at) (by decide +kernel)) (fun _ _ _ _ _ => (pg_name (i := 11) sc_points_at.nd rfl (by first | exact Or.inl rfl | exact Or.inr rfl))) (fun _ _ _ _ _ => (pts_one (pt_cmpR (op_eqK K rfl hr.units) (pe_ix (ix_seqK K rfl) (pv 9) (pv 11) (fun _ _ => rfl)) (pe_gS rfl T.c_PASSED) (nomark _)))) (fun _ _ _ _ _ => (pv 11)))
    (pss_cons (ps_set (i := 6) sc_points_at.nd rfl (by first | exact Or.inl rfl | exact Or.inr rfl) (pe_callB (call_max2 rfl) (by rfl) T.n_max (by decide +kernel) (pa_cons (pv 6) (pa_cons (pe_fn d_worth_of (hr.mono (by decide)) (by rfl) (pa_cons (pv 0) (pa_cons (pv 1) (pa_cons (pv 8) (pa_cons (pe_callB (cr_sumK K rfl rfl) (by rfl) T.n_sum (by decide +kernel) (pa_cons (pe_lc (own := [("g", 11)]) (g := gName 11) (tt := tYes) rfl sc_points_at.nd (pi_seqK K rfl (pv 10)) (blkOk_by (own := [("g", 11)]) (N := N_points_at) (sc := defScope s_points_at) (by decide +kernel)) (fun _ _ _ _ _ => (pg_name (i := 11) sc_points_at.nd rfl (by first | exact Or.inl rfl | exact Or.inr rfl))) (fun _ _ _ _ _ => pts_nil) (fun _ _ _ _ _ => (pe_ix (ix_seqK K rfl) (pe_ix (ix_seqK K rfl) (pv 5) (pv 11) (fun _ _ => rfl)) pe_int (fun _ _ => rfl)))) pa_nil)) pa_nil))))) pa_nil))))
    (pss_one (ps_for PassesOwn.never rfl (pi_seqK K rfl (pv 10)) (pg_name (i := 11) sc_points_at.nd rfl (by first | exact Or.inl rfl | exact Or.inr rfl)) (pss_one (ps_asg (pe_callB (call_max2 rfl) (by rfl) T.n_max (by decide +kernel) (pa_cons (pe_ix (ix_seqK K rfl) (pv 7) (pv 11) (fun _ _ => rfl)) (pa_cons (pe_fn d_worth_of (hr.mono (by decide)) (by rfl) (pa_cons (pv 0) (pa_cons (pv 1) (pa_cons (pv 8) (pa_cons (pe_ix (ix_seqK K rfl) (pe_ix (ix_seqK K rfl) (pv 5) (pv 11) (fun _ _ => rfl)) pe_int (fun _ _ => rfl)) pa_nil))))) pa_nil))) (pg_sub (pv 7) (pv 11) set_list)))))))))
    (pss_one (ps_ret (pe_ifExp (pt_cmpR (op_eqK K rfl hr.units) (pe_ix (ix_seqK K rfl) (pv 0) pe_int (fun _ _ => rfl)) (pe_gS rfl T.c_BEST) (nomark _)) (pv 6) (pe_callB (cr_sumK K rfl rfl) (by rfl) T.n_sum (by decide +kernel) (pa_cons (pv 7) pa_nil))))))))), ?_⟩
    try dsimp only [cxOf, Cx.nox, Cx.wish]
    generalize hgs : c.groups k = gs
    have hc := Con.task_at hk
    obtain ⟨o1, o2, o3, o4⟩ := Con.task_ok oc hk
    have o3 : gs.length ≤ 4 := by rw [← hgs]; exact o3
    have hgl : (gs.map gD).length = gs.length := List.length_map _
    have hnl : (ns.map natD).length = ns.length := List.length_map _
    refine q_asg (K := K) e (d := .tup (gs.map gD)) (e_ix (d1 := tkD (c.task k)) (e_ix (d1 := .tup (c.tasks.map tkD)) (i := (k : Nat)) (e_ix (d1 := c.d) (by walk_at "ev") e_int rfl) (by walk_at "ev") (at_mapT hc)) e_int (by rw [← hgs]; rfl)) fun v5 G1 H1 s1 r5 => ?_
    refine q_asgC ?_
    have hrep : (List.replicate gs.length [D.int 0]).flatten = (List.range gs.length).map fun g => D.int ((singU c ts tb gs [] g : Nat) : Int) := by
      have : ∀ L : Nat, (List.replicate L [D.int 0]).flatten = (List.range L).map fun _ => D.int 0 := by
        intro L
        induction L with
        | zero => rfl
        | succ L ih => rw [List.replicate_succ', List.flatten_append, ih, List.range_succ, List.map_append]; rfl
      exact this _
    refine q_asgF (K := K) s1.i (EvF.eq (f_rep (ds := [.int 0]) (n := gs.length) (EvF.toD (f_lst (a_one e_int) (by show 1 ≤ 100000; decide))) (e_len (d := .tup (gs.map gD)) (e_var rfl r5) (congrArg some hgl)) (by show 1 * _ ≤ _; omega) (by omega)) hrep) fun p xs G2 H2 s2 hp hg2 hx2 rx => ?_
    have hxs : xs = (List.range gs.length).map fun g => V.int ((singU c ts tb gs [] g : Nat) : Int) := by
      have h1 : ((List.range gs.length).map fun g => D.int ((singU c ts tb gs [] g : Nat) : Int)) = (((List.range gs.length).map fun g => ((singU c ts tb gs [] g : Nat) : Int)).map D.int) := by rw [List.map_map]; rfl
      rw [h1] at rx
      rw [rx.ints, List.map_map]
      rfl
    subst hxs
    have S2 := s1.trans s2
    have hp0 := s1.pre hp
    have r5 := r5.ex s2.g
    refine q_for (K := K) (n := ns.length) (js := [8]) (E := fun i => [nth (ns.map natD) i]) S2 (i_seqL' hnl (e_var rfl (r3.ex S2.g))) (fun i hi => g_name)
      (fun i σ' G' H' => G' p = none ∧ H' p = some (.lst ((List.range gs.length).map fun g => V.int ((singU c ts tb gs (ns.take i) g : Nat) : Int))) ∧ ∃ w8 w9 w10 w11, σ' = [some v0, some v1, some v2, some v3, some v4, some v5, some (.int ((bestU c ts tb gs (ns.take i) : Nat) : Int)), some (.ref p), w8, w9, w10, w11])
      (fun G3 H3 s3 => ⟨(s3.keep hg2 hx2).1, (s3.keep hg2 hx2).2, _, _, _, _, rfl⟩) ?_ ?_
    · rintro Gw ew i hi σ' G' H' S' ew' ⟨g', x', w8, w9, w10, w11, rfl⟩ G3 H3 us s3 ru
      obtain ⟨a, rfl, ra⟩ := ru.one
      have hni : ns[i]? = some ns[i] := List.getElem?_eq_getElem hi
      rw [nth_map hni] at ra
      obtain ⟨hn, hnk⟩ := hns _ (List.getElem_mem hi)
      generalize ns[i] = n at hni ra hn hnk
      rw [take_snoc hni]
      generalize ns.take i = nb at x'
      cases ra
      have hgo : gsOf c ts n = gs := by rw [← hgs, ← hnk]
      obtain ⟨g3, x3⟩ := s3.keep g' x'
      have S3 := S'.trans s3
      have e3 : Ex G G3 := S3.g
      have e23 : Ex G2 G3 := ew.trans (ew'.trans s3.g)
      have r0 := r0.ex e3
      have r1 := r1.ex e3
      have r2 := r2.ex e3
      have r5 := r5.ex e23
      refine q_asg (K := K) S3.i (d := .lst ((gSts gs (tb n)).map stD)) (EvF.toD (f_call (K := K) (a_cons (by walk_at "ev") (a_cons (by walk_at "ev") (a_cons (by walk_at "ev") (a_one (e_var rfl (.int _)))))) ⟨c, ts, kvs, tb, n, rfl, oc, ot, otb, hn, by rw [hgo]⟩)) fun v9 G4 H4 s4 r9 => ?_
      have S4 := S3.trans s4
      have r5 := r5.ex s4.g
      refine q_asg (K := K) S4.i (d := .lst ((passedG gs (tb n)).map natD)) (EvF.toD (f_lc (n := gs.length) (js := [11]) (fun g => [.int g]) (fun g => decide (gSt gs (tb n) g = .passed)) natD (i_rng1' (e_len (d := .tup (gs.map gD)) (e_var rfl r5) (congrArg some hgl)) (by omega)) (fun _ _ => g_name) (by omega) (fun _ _ => rfl)
        (fun us h => match us, h with | [_], _ => rfl) (fun g hg G5 e5 us ru => ?_) (fun g hg _ G5 e5 us ru => ?_))) fun v10 G5 H5 s5 r10 => ?_
      · obtain ⟨y, rfl, ry⟩ := ru.one
        exact b_test (EvD.bl (e_eq (d1 := stD (gSt gs (tb n) g)) (d2 := stD .passed) (e_ix (d1 := .lst ((gSts gs (tb n)).map stD)) (i := (g : Nat)) (e_var rfl (r9.ex e5)) (e_var rfl ry) (at_mapL (gSts_at hg))) e_str rfl) (st_eq _ _))
      · obtain ⟨y, rfl, ry⟩ := ru.one
        exact e_var rfl ry
      have S5 := S4.trans s5
      obtain ⟨g5, x5⟩ := (s4.trans s5).keep g3 x3
      have hpl : ∀ g ∈ passedG gs (tb n), g < gs.length := fun g hg => List.mem_range.mp (List.mem_filter.mp hg).1
      have hpn : (passedG gs (tb n)).Nodup := List.nodup_range.filter _
      have hpm : ∀ g, g < gs.length → (g ∈ passedG gs (tb n) ↔ gSt gs (tb n) g = .passed) := fun g hg => by
        unfold passedG
        rw [List.mem_filter, List.mem_range, decide_eq_true_eq]
        exact ⟨fun h => h.2, fun h => ⟨hg, h⟩⟩
      have hplen : (passedG gs (tb n)).length ≤ 4 := by
        have := List.length_filter_le (fun g => decide (gSt gs (tb n) g = .passed)) (List.range gs.length)
        rw [List.length_range] at this
        unfold passedG
        omega
      have hbest : bestU c ts tb gs (nb ++ [n]) = max (bestU c ts tb gs nb) (worth c (tryAt ts n) (ptsOf gs (passedG gs (tb n)))) := foldl_snoc_max _ _ _ _
      rw [hbest]
      generalize hpg : passedG gs (tb n) = pg at r10 hpl hpn hpm hplen
      have r0 := r0.ex (s4.g.trans s5.g)
      have r1 := r1.ex (s4.g.trans s5.g)
      have r5 := r5.ex s5.g
      have hgp : ∀ g, g < gs.length → ∀ G6, Ex G5 G6 → ∀ (σ : L2.St) (ix : Nat) (y : V), σ[5]? = some (some v5) → σ[ix]? = some (some y) → Rp K G6 y (.int g) → EvD K (tOp (rIx K) (tOp (rIx K) (tVar 5) (tVar ix)) (tC (.int 1))) σ G6 (.int (grp gs g).2) := fun g hg G6 e6 σ ix y h5 hix ry =>
        e_ix (d1 := gD (grp gs g)) (e_ix (d1 := .tup (gs.map gD)) (i := (g : Nat)) (e_var h5 (r5.ex e6)) (e_var hix ry) (at_mapT (grp_at hg))) e_int rfl
      refine q_asg (K := K) S5.i (d := .int ((max (bestU c ts tb gs nb) (worth c (tryAt ts n) (ptsOf gs pg)) : Nat) : Int)) (EvD.int (e_max2 (e_var rfl (.int _)) (e_call (a_cons (e_var rfl r0) (a_cons (e_var rfl r1) (a_cons (e_var rfl (.int _)) (a_one (EvD.int (e_sum (ns := pg.map fun g => ((grp gs g).2 : Int)) (EvF.toD (f_lcm (xs := pg) (Y := nth (pg.map natD)) (js := [11]) (fun _ g => [natD g]) (fun _ => true) (fun g => .int (grp gs g).2)
          (i_seqL' (List.length_map _) (e_var rfl r10)) (fun j x hx => by rw [nth_map hx]; exact g_name) (by omega) (fun _ _ _ => rfl) (fun us h => match us, h with | [_], _ => rfl) (fun _ _ _ _ _ _ _ => b_yes) (fun j x hx _ G6 e6 us ru => ?_))) ?_) ?_))))) ⟨c, ts, n, ptsOf gs pg, rfl, oc, ot, hn, rfl⟩)) ?_) fun v6 G6 H6 s6 r6 => ?_
      · obtain ⟨y, rfl, ry⟩ := ru.one
        exact hgp x (hpl x (List.mem_of_getElem? hx)) G6 e6 _ 11 y rfl rfl ry
      · rw [List.filter_eq_self.mpr (fun _ _ => rfl), List.map_map]
        rfl
      · have h := sum_nat (pg.map fun g => (grp gs g).2)
        rw [List.map_map] at h
        exact h
      · split <;> omega
      cases r6
      have S6 := S5.trans s6
      obtain ⟨g6, x6⟩ := s6.keep g5 x5
      have r0 := r0.ex s6.g
      have r1 := r1.ex s6.g
      have r10 := r10.ex s6.g
      have e56 : Ex G5 G6 := s6.g
      refine s_for (K := K) (n := pg.length) (js := [11]) (E := fun j => [nth (pg.map natD) j]) S6 (i_seqL' (List.length_map _) (e_var rfl r10)) (fun j hj => g_name)
        (fun j σ' G' H' => G' p = none ∧ H' p = some (.lst ((List.range gs.length).map fun g => V.int ((if g ∈ pg.take j then max (singU c ts tb gs nb g) (worth c (tryAt ts n) (grp gs g).2) else singU c ts tb gs nb g : Nat) : Int))) ∧ ∃ w11, σ' = [some v0, some v1, some v2, some v3, some v4, some v5, some (.int ((max (bestU c ts tb gs nb) (worth c (tryAt ts n) (ptsOf gs pg)) : Nat) : Int)), some (.ref p), some (.int n), some v9, some v10, w11])
        (fun G7 H7 s7 => ⟨(s7.keep g6 x6).1, by
          rw [(s7.keep g6 x6).2]
          refine congrArg (fun l => some (HO.lst l)) (List.map_congr_left fun g _ => ?_)
          rw [if_neg (by rw [List.take_zero]; exact List.not_mem_nil)], _, rfl⟩) ?_ ?_
      · rintro Gv ev j hj σ' G' H' S' ev' ⟨g', x', w11, rfl⟩ G7 H7 us s7 ru
        obtain ⟨a, rfl, ra⟩ := ru.one
        have hpj : pg[j]? = some pg[j] := List.getElem?_eq_getElem hj
        rw [nth_map hpj] at ra
        have hg0 := hpl _ (List.getElem_mem hj)
        have hnot : pg[j] ∉ pg.take j := fun h => by
          have h1 := hpn
          rw [← List.take_append_drop j pg, List.drop_eq_getElem_cons hj] at h1
          exact (List.nodup_append.mp h1).2.2 _ h _ List.mem_cons_self rfl
        have htk : pg.take (j + 1) = pg.take j ++ [pg[j]] := take_snoc hpj
        generalize pg[j] = g0 at hpj ra hg0 hnot htk
        cases ra
        obtain ⟨g7, x7⟩ := s7.keep g' x'
        have S7 := S'.trans s7
        have e67 : Ex G6 G7 := ev.trans (ev'.trans s7.g)
        have r0 := r0.ex e67
        have r1 := r1.ex e67
        have hat : D.at (.lst ((List.range gs.length).map fun g => D.int ((if g ∈ pg.take j then max (singU c ts tb gs nb g) (worth c (tryAt ts n) (grp gs g).2) else singU c ts tb gs nb g : Nat) : Int))) (g0 : Int) = some (.int ((singU c ts tb gs nb g0 : Nat) : Int)) := by
          rw [at_mapL (List.getElem?_range hg0), if_neg hnot]
        refine s_setOv (K := K) (j := g0) (d := .int ((max (singU c ts tb gs nb g0) (worth c (tryAt ts n) (grp gs g0).2) : Nat) : Int)) S7.i g7 x7 rfl rfl (EvD.int (e_max2 (e_ix (i := (g0 : Int)) (e_var rfl (.lst upd_same RpA.of_nats)) (e_var rfl (.int _)) hat)
          (e_call (a_cons (e_var rfl (r0.ex (Ex.new g7))) (a_cons (e_var rfl (r1.ex (Ex.new g7))) (a_cons (e_var rfl (.int _)) (a_one (hgp g0 hg0 _ (e56.trans (e67.trans (Ex.new g7))) _ 11 _ rfl rfl (.int _)))))) ⟨c, ts, n, (grp gs g0).2, rfl, oc, ot, hn, rfl⟩)) (by split <;> omega)) rfl (by rw [List.length_map, List.length_range]; exact hg0) fun G8 H8 s8 g8 => ?_
        refine ⟨G8, (S7.trans s8).mut hp0 g8, ev'.trans (s7.g.trans s8.g), g8, ?_, _, rfl⟩
        rw [upd_same]
        congr 2
        have hl2 : (((List.range gs.length).map fun g => V.int ((if g ∈ pg.take j then max (singU c ts tb gs nb g) (worth c (tryAt ts n) (grp gs g).2) else singU c ts tb gs nb g : Nat) : Int)).set g0 (D.int ((max (singU c ts tb gs nb g0) (worth c (tryAt ts n) (grp gs g0).2) : Nat) : Int)).toV)
            = (((List.range gs.length).map fun g => if g ∈ pg.take j then max (singU c ts tb gs nb g) (worth c (tryAt ts n) (grp gs g).2) else singU c ts tb gs nb g).set g0 (max (singU c ts tb gs nb g0) (worth c (tryAt ts n) (grp gs g0).2))).map fun m : Nat => V.int (m : Int) := by
          rw [List.map_set, List.map_map]
          rfl
        rw [hl2, set_range, List.map_map]
        refine List.map_congr_left fun g _ => ?_
        show V.int ((if g = g0 then max (singU c ts tb gs nb g0) (worth c (tryAt ts n) (grp gs g0).2) else if g ∈ pg.take j then max (singU c ts tb gs nb g) (worth c (tryAt ts n) (grp gs g).2) else singU c ts tb gs nb g : Nat) : Int) = V.int _
        rw [htk]
        by_cases hgg : g = g0
        · subst hgg
          rw [if_pos rfl, if_pos (List.mem_append_right _ List.mem_cons_self)]
        · rw [if_neg hgg]
          by_cases hm : g ∈ pg.take j
          · rw [if_pos hm, if_pos (List.mem_append_left _ hm)]
          · rw [if_neg hm, if_neg (fun z => (List.mem_append.mp z).elim hm fun z => hgg (List.mem_singleton.mp z))]
      · rintro σ' G' H' S' ev' ⟨g', x', w11, rfl⟩
        refine ⟨G', S', ew'.trans (s3.g.trans (s4.g.trans (s5.g.trans (s6.g.trans ev')))), g', ?_, _, _, _, _, rfl⟩
        rw [x', List.take_length]
        congr 2
        refine List.map_congr_left fun g hg => ?_
        have hs : singU c ts tb gs (nb ++ [n]) g = if gSt gs (tb n) g = .passed then max (singU c ts tb gs nb g) (worth c (tryAt ts n) (grp gs g).2) else singU c ts tb gs nb g := foldl_snoc_max _ _ _ _
        rw [hs]
        by_cases hm : gSt gs (tb n) g = .passed
        · rw [if_pos hm, if_pos ((hpm g (List.mem_range.mp hg)).mpr hm)]
        · rw [if_neg hm, if_neg fun z => hm ((hpm g (List.mem_range.mp hg)).mp z)]
    · rintro σ' G' H' S' ew ⟨g', x', w8, w9, w10, w11, rfl⟩
      rw [List.take_length] at x'
      have r0 := r0.ex S'.g
      have hsum : (((List.range gs.length).map fun g => ((singU c ts tb gs ns g : Nat) : Int))).sum = (((List.range gs.length).map (singU c ts tb gs ns)).sum : Nat) := by
        have h := sum_nat ((List.range gs.length).map (singU c ts tb gs ns))
        rw [List.map_map] at h
        exact h
      refine s_retO (K := K) (d := .int (pointsAt c ts tb k ns)) S'.i g' x' ?_ rfl fun v G3 H3 s3 g3 x3 rv => q v G3 H3 (S'.trans s3) rv
      unfold pointsAt
      rw [hgs]
      refine e_if (a := decide (c.rule = sBest)) (b_test (K := K) (e_eq (d1 := .str c.rule) (e_ix (d1 := c.d) (e_var rfl (r0.ex (Ex.new g'))) e_int rfl) e_str rfl)) (fun h => ?_) (fun h => ?_)
      · rw [if_pos (of_decide_eq_true h)]
        exact EvD.int (e_var rfl (.int _)) (by rw [List.take_length])
      · rw [if_neg (of_decide_eq_false h)]
        refine EvD.int (e_sum (ns := (List.range gs.length).map fun g => ((singU c ts tb gs ns g : Nat) : Int)) (e_var (d := .lst ((List.range gs.length).map fun g => D.int ((singU c ts tb gs ns g : Nat) : Int))) rfl (.lst upd_same RpA.of_nats)) (by rw [List.map_map]; rfl)) hsum

end

section
variable [Tbs] {P : Program} {w : World} {K : PySem.W.Frag} {mg : Str → Option Value} {base : Heap}
abbrev s_score_of : Stmt := top 51
abbrev N_score_of : List Str := ["contest", "tries", "table", "team", "untils", "solved", "cost", "last", "points", "task", "numbers", "found"]
abbrev P_score_of : List Str := ["contest", "tries", "table", "team", "untils"]
theorem sc_score_of : FnScope N_score_of P_score_of (defScope s_score_of) := ⟨rfl, rfl, rfl, by decide +kernel, rfl, by decide +kernel, by decide +kernel⟩

def untD (us : List Nat) : D := .lst (us.map natD)
def untAt (us : List Nat) (k : Nat) : Nat := us.getD k 0
theorem unt_at {us : List Nat} {k : Nat} (h : k < us.length) : us[k]? = some (untAt us k) := by
  unfold untAt
  rw [List.getD_eq_getElem?_getD, List.getElem?_eq_getElem h]
  rfl
def solOf (c : Con) (ts : List Try) (tb : Nat → Nat → Option Bool) (us : List Nat) (team k : Nat) : Option (Nat × Nat) := solvedFrom c ts tb 0 (numsOf ts team k (untAt us k))
def addSol (a : Nat × Nat × Nat) : Option (Nat × Nat) → Nat × Nat × Nat
  | none => a
  | some x => (a.1 + 1, a.2.1 + x.1, max a.2.2 x.2)
def firstU (c : Con) (ts : List Try) (tb : Nat → Nat → Option Bool) (us : List Nat) (team i : Nat) : Nat × Nat × Nat := (List.range i).foldl (fun a k => addSol a (solOf c ts tb us team k)) (0, 0, 0)
def ptsU (c : Con) (ts : List Try) (tb : Nat → Nat → Option Bool) (us : List Nat) (team i : Nat) : Nat := (List.range i).foldl (fun a k => a + pointsAt c ts tb k (numsOf ts team k (untAt us k))) 0
def scoreL (c : Con) (ts : List Try) (tb : Nat → Nat → Option Bool) (us : List Nat) (team : Nat) : List Int :=
  if c.rule = sFirst then [((firstU c ts tb us team c.tasks.length).1 : Int), ((firstU c ts tb us team c.tasks.length).2.1 : Int), ((firstU c ts tb us team c.tasks.length).2.2 : Int)] else [(ptsU c ts tb us team c.tasks.length : Int)]
def R_score_of (ds : List D) (r : D) : Prop := ∃ (c : Con) (ts : List Try) (kvs : List (List Key × V)) (tb : Nat → Nat → Option Bool) (team : Nat) (us : List Nat), ds = [c.d, trsD ts, .tab kvs, .int team, untD us] ∧ c.Ok ∧ TriesOk c ts ∧ TabOk kvs tb ∧ us.length = c.tasks.length ∧ r = scD (scoreL c ts tb us team)
abbrev sp_score_of (K : PySem.W.Frag) : Sp := spP K R_score_of
def accA (c : Con) (ts : List Try) (tb : Nat → Nat → Option Bool) (us : List Nat) (team i : Nat) : Nat × Nat × Nat := if c.rule = sFirst then firstU c ts tb us team i else (0, 0, 0)
def accB (c : Con) (ts : List Try) (tb : Nat → Nat → Option Bool) (us : List Nat) (team i : Nat) : Nat := if c.rule = sFirst then 0 else ptsU c ts tb us team i
theorem range_foldl {β : Type} (f : β → Nat → β) (b : β) (i : Nat) : (List.range (i + 1)).foldl f b = f ((List.range i).foldl f b) i := by
  rw [List.range_succ, List.foldl_append]
  rfl
theorem b_notNs {te : TE} {σ : L2.St} {G : Hp} {o : Option (Nat × Nat)} (h : EvD K te σ G (solD o)) : EvB (tTest (tOp (fun x y H Q => y = .non ∧ Q (.bl (!decide (x = .non))) H) te (tC .non))) σ G o.isSome := b_test (e_notN h (by cases o <;> rfl))
theorem numsOf_len {ts : List Try} {a b c : Nat} : (numsOf ts a b c).length ≤ ts.length := by
  have := List.length_filter_le (fun k => isOf a b c (tryAt ts k)) (List.range ts.length)
  rw [List.length_range] at this
  exact this
theorem numsOf_task {ts : List Try} {a b c k : Nat} (h : k ∈ numsOf ts a b c) : (tryAt ts k).2.1 = b := by
  have h1 := (List.mem_filter.mp h).2
  unfold isOf at h1
  rw [Bool.and_eq_true] at h1
  exact (of_decide_eq_true h1.1).2
theorem numsOf_lt' {ts : List Try} {a b c k : Nat} (h : k ∈ numsOf ts a b c) : k < ts.length := List.mem_range.mp (List.mem_filter.mp h).1
theorem ok_score_of {f : Addr} {fd : FuncData} (F : Fun K "score_of" "score_of" s_score_of f fd) (T : Tx K mg) (d_numbers_of : Dk P w K mg base 1 "numbers_of" P_numbers_of (sp_numbers_of K)) (d_points_at : Dk P w K mg base 3 "points_at" P_points_at (sp_points_at K)) (d_solved_at : Dk P w K mg base 4 "solved_at" P_solved_at (sp_solved_at K)) : FnOk P w K mg base CX0 5 f fd P_score_of (sp_score_of K) := by
  refine F.ok sc_score_of (fun vs H Q E h => ?_) (fun cdv A outer s H vs Q E hr h => ?_)
  · obtain ⟨G, ds, r, e, ra, ⟨c, ts, kvs, tb, team, us, rfl, oc, ot, otb, hus, rfl⟩, q⟩ := h
    exact ra.len
  · obtain ⟨G, ds, r, e, ra, ⟨c, ts, kvs, tb, team, us, rfl, oc, ot, otb, hus, rfl⟩, q⟩ := h
    obtain ⟨v0, v1, v2, v3, v4, rfl, r0, r1, r2, r3, r4⟩ := ra.five
    refine ⟨_, (pss_cons (ps_asg (pe_tup (pa_cons pe_int (pa_cons pe_int (pa_cons pe_int (pa_cons pe_int pa_nil))))) (pg_tup rfl (pgs_cons (pg_name (i := 5) sc_score_of.nd rfl (by first | exact Or.inl rfl | exact Or.inr rfl)) (pgs_cons (pg_name (i := 6) sc_score_of.nd rfl (by first | exact Or.inl rfl | exact Or.inr rfl)) (pgs_cons (pg_name (i := 7) sc_score_of.nd rfl (by first | exact Or.inl rfl | exact Or.inr rfl)) (pgs_cons (pg_name (i := 8) sc_score_of.nd rfl (by first | exact Or.inl rfl | exact Or.inr rfl)) pgs_nil))))))
    (pss_cons (ps_for PassesOwn.never rfl (pi_range1 (by rfl) T.n_range (pa_cons (pe_callB (call_lenK K rfl) (by rfl) T.n_len (by decide +kernel) (pa_cons (pe_ix (ix_seqK K rfl) (pv 0) pe_int (fun _ _ => rfl)) pa_nil)) pa_nil)) (pg_name (i := 9) sc_score_of.nd rfl (by first | exact Or.inl rfl | exact Or.inr rfl)) (pss_cons (ps_set (i := 10) sc_score_of.nd rfl (by first | exact Or.inl rfl | exact Or.inr rfl) (pe_fn d_numbers_of (hr.mono (by decide)) (by rfl) (pa_cons (pv 0) (pa_cons (pv 1) (pa_cons (pv 3) (pa_cons (pv 9) (pa_cons (pe_ix (ix_seqK K rfl) (pv 4) (pv 9) (fun _ _ => rfl)) pa_nil)))))))
    (pss_one (ps_if (pt_cmpR (op_eqK K rfl hr.units) (pe_ix (ix_seqK K rfl) (pv 0) pe_int (fun _ _ => rfl)) (pe_gS rfl T.c_FIRST) (nomark _)) (pss_cons (ps_set (i := 11) sc_score_of.nd rfl (by first | exact Or.inl rfl | exact Or.inr rfl) (pe_fn d_solved_at (hr.mono (by decide)) (by rfl) (pa_cons (pv 0) (pa_cons (pv 1) (pa_cons (pv 2) (pa_cons (pv 10) pa_nil))))))
    (pss_one (ps_if (pt_cmpR op_notN (pv 11) pe_non (nomark _)) (pss_one (ps_par3 (i := 5) (j := 6) (l := 7) rfl sc_score_of.nd rfl rfl rfl (by decide) (by decide) (by decide) rfl rfl rfl (pa_cons (pe_op (op_addK K rfl) (pv 5) pe_int) (pa_cons (pe_op (op_addK K rfl) (pv 6) (pe_ix (ix_seqK K rfl) (pv 11) pe_int (fun _ _ => rfl))) (pa_cons (pe_callB (call_max2 rfl) (by rfl) T.n_max (by decide +kernel) (pa_cons (pv 7) (pa_cons (pe_ix (ix_seqK K rfl) (pv 11) pe_int (fun _ _ => rfl)) pa_nil))) pa_nil))) (by rfl))) pss_nil))) (pss_one (ps_set (i := 8) sc_score_of.nd rfl (by first | exact Or.inl rfl | exact Or.inr rfl) (pe_op (op_addK K rfl) (pv 8) (pe_fn d_points_at (hr.mono (by decide)) (by rfl) (pa_cons (pv 0) (pa_cons (pv 1) (pa_cons (pv 2) (pa_cons (pv 10) (pa_cons (pv 9) pa_nil)))))))))))))
    (pss_one (ps_ret (pe_ifExp (pt_cmpR (op_eqK K rfl hr.units) (pe_ix (ix_seqK K rfl) (pv 0) pe_int (fun _ _ => rfl)) (pe_gS rfl T.c_FIRST) (nomark _)) (pe_tup (pa_cons (pv 5) (pa_cons (pv 6) (pa_cons (pv 7) pa_nil)))) (pe_tup (pa_cons (pv 8) pa_nil))))))), ?_⟩
    try dsimp only [cxOf, Cx.nox, Cx.wish]
    have hlen := ot.len
    have htl : (c.tasks.map tkD).length = c.tasks.length := List.length_map _
    have hmany := oc.many
    refine q_asgT (K := K) e (d := .tup [.int 0, .int 0, .int 0, .int 0]) (js := [5, 6, 7, 8]) (es := [.int 0, .int 0, .int 0, .int 0]) (e_tup (a_cons e_int (a_cons e_int (a_cons e_int (a_one e_int)))) (by show 4 ≤ 100000; decide)) (g_tup (g_cons g_name (g_cons g_name (g_cons g_name (g_cons g_name g_nil rfl) rfl) rfl) rfl) rfl) fun us' G1 H1 s1 ru => ?_
    obtain ⟨a, b, c', d', rfl, ra, rb, rc, rd⟩ := ru.four
    cases ra
    cases rb
    cases rc
    cases rd
    have hA0 : accA c ts tb us team 0 = (0, 0, 0) := by unfold accA; split <;> rfl
    have hB0 : accB c ts tb us team 0 = 0 := by unfold accB; split <;> rfl
    refine q_for (K := K) (n := c.tasks.length) (js := [9]) (E := fun i => [.int i]) s1 (i_rng1' (e_len (d := .tup (c.tasks.map tkD)) (e_ix (d1 := c.d) (e_var rfl (r0.ex s1.g)) e_int rfl) (congrArg some htl)) (by omega)) (fun _ _ => g_name)
      (fun i σ' G' H' => ∃ w9 w10 w11, σ' = [some v0, some v1, some v2, some v3, some v4, some (.int (accA c ts tb us team i).1), some (.int (accA c ts tb us team i).2.1), some (.int (accA c ts tb us team i).2.2), some (.int (accB c ts tb us team i)), w9, w10, w11])
      (fun G2 H2 s2 => ⟨_, _, _, by rw [hA0, hB0]; rfl⟩) ?_ ?_
    · rintro Gw ew i hi σ' G' H' S' ew' ⟨w9, w10, w11, rfl⟩ G2 H2 us' s2 ru
      obtain ⟨a, rfl, ra⟩ := ru.one
      cases ra
      have S2 := S'.trans s2
      have r0 := r0.ex S2.g
      have r1 := r1.ex S2.g
      have r2 := r2.ex S2.g
      have r3 : Rp K G2 v3 (.int team) := r3.flat_any rfl
      have r4 := r4.ex S2.g
      have hu : us[i]? = some (untAt us i) := unt_at (by omega)
      generalize hA : accA c ts tb us team i = A
      generalize hB : accB c ts tb us team i = B
      generalize hN : numsOf ts team i (untAt us i) = ns
      have hns : ∀ n ∈ ns, n < ts.length ∧ (tryAt ts n).2.1 = i := fun n hn => by rw [← hN] at hn; exact ⟨numsOf_lt' hn, numsOf_task hn⟩
      have hnl : ns.length ≤ 200 := by rw [← hN]; exact Nat.le_trans numsOf_len hlen
      refine q_asg (K := K) S2.i (d := .lst (ns.map natD)) (EvF.toD (f_call (K := K) (a_cons (e_var rfl r0) (a_cons (e_var rfl r1) (a_cons (e_var rfl r3) (a_cons (e_var rfl (.int _)) (a_one (e_ix (d1 := untD us) (i := (i : Nat)) (d := natD (untAt us i)) (e_var rfl r4) (e_var rfl (.int _)) (at_mapL hu))))))) ⟨c, ts, team, i, untAt us i, rfl, hlen, by rw [hN]⟩)) fun v10 G3 H3 s3 r10 => ?_
      have S3 := S2.trans s3
      have r0 := r0.ex s3.g
      have r1 := r1.ex s3.g
      have r2 := r2.ex s3.g
      refine s_if (b := decide (c.rule = sFirst)) S3.i (b_test (K := K) (e_eq (d1 := .str c.rule) (e_ix (d1 := c.d) (e_var rfl r0) e_int rfl) e_str rfl)) (fun hb G4 H4 s4 => ?_) (fun hb G4 H4 s4 => ?_)
      · have hb := of_decide_eq_true hb
        have S4 := S3.trans s4
        have hB' : accB c ts tb us team (i + 1) = B := by rw [← hB]; unfold accB; rw [if_pos hb, if_pos hb]
        have hA' : accA c ts tb us team (i + 1) = addSol A (solvedFrom c ts tb 0 ns) := by
          rw [← hA, ← hN]
          unfold accA
          rw [if_pos hb, if_pos hb]
          exact range_foldl _ _ _
        generalize hsol : solvedFrom c ts tb 0 ns = sol at hA'
        refine q_asg (K := K) S4.i (d := solD sol) (e_call (a_cons (e_var rfl (r0.ex s4.g)) (a_cons (e_var rfl (r1.ex s4.g)) (a_cons (e_var rfl (r2.ex s4.g)) (a_one (e_var rfl (r10.ex s4.g)))))) ⟨c, ts, kvs, tb, ns, rfl, oc, ot, otb, fun n hn => (hns n hn).1, hnl, by rw [hsol]⟩) fun v11 G5 H5 s5 r11 => ?_
        have S5 := S4.trans s5
        refine s_when (b := sol.isSome) S5.i (b_notNs (K := K) (e_var rfl r11)) (fun hs G6 H6 s6 => ?_) (fun hs G6 H6 s6 => ?_)
        · obtain ⟨x, rfl⟩ := Option.isSome_iff_exists.mp hs
          have r11 := r11.ex s6.g
          refine s_par3 (K := K) (S5.trans s6).i (d1 := .int ((A.1 + 1 : Nat) : Int)) (d2 := .int ((A.2.1 + x.1 : Nat) : Int)) (d3 := .int ((max A.2.2 x.2 : Nat) : Int)) (a_cons (EvD.int (e_addI (e_var rfl (.int _)) e_int) rfl) (a_cons (EvD.int (e_addI (j := (x.1 : Int)) (e_var rfl (.int _)) (e_ix (d1 := solD (some x)) (e_var rfl r11) e_int rfl)) rfl)
            (a_one (EvD.int (e_max2 (j := (x.2 : Int)) (e_var rfl (.int _)) (e_ix (d1 := solD (some x)) (e_var rfl r11) e_int rfl)) (by split <;> omega))))) fun w1 w2 w3 G7 H7 s7 q1 q2 q3 => ?_
          cases q1
          cases q2
          cases q3
          exact ⟨G7, (S5.trans s6).trans s7, ew'.trans (s2.g.trans (s3.g.trans (s4.g.trans (s5.g.trans (s6.g.trans s7.g))))), _, _, _, by rw [hA', hB']; rfl⟩
        · have : sol = none := by cases sol with
            | none => rfl
            | some x => cases hs
          subst this
          exact ⟨G6, S5.trans s6, ew'.trans (s2.g.trans (s3.g.trans (s4.g.trans (s5.g.trans s6.g)))), _, _, _, by rw [hA', hB']; rfl⟩
      · have hb := of_decide_eq_false hb
        have S4 := S3.trans s4
        have hA' : accA c ts tb us team (i + 1) = A := by rw [← hA]; unfold accA; rw [if_neg hb, if_neg hb]
        have hB' : accB c ts tb us team (i + 1) = B + pointsAt c ts tb i ns := by
          rw [← hB, ← hN]
          unfold accB
          rw [if_neg hb, if_neg hb]
          exact range_foldl _ _ _
        refine s_asg (K := K) S4.i (d := .int ((B + pointsAt c ts tb i ns : Nat) : Int)) (EvD.int (e_addI (e_var rfl (.int _)) (e_call (a_cons (e_var rfl (r0.ex s4.g)) (a_cons (e_var rfl (r1.ex s4.g)) (a_cons (e_var rfl (r2.ex s4.g)) (a_cons (e_var rfl (r10.ex s4.g)) (a_one (e_var rfl (.int _))))))) ⟨c, ts, kvs, tb, ns, i, rfl, oc, ot, otb, hns, hnl, hi, rfl⟩)) rfl) fun v G5 H5 s5 rv => ?_
        cases rv
        exact ⟨G5, S4.trans s5, ew'.trans (s2.g.trans (s3.g.trans (s4.g.trans s5.g))), _, _, _, by rw [hA', hB']; rfl⟩
    · rintro σ' G' H' S' ew ⟨w9, w10, w11, rfl⟩
      have r0 := r0.ex S'.g
      refine s_ret (K := K) S'.i (d := scD (scoreL c ts tb us team)) (e_if (a := decide (c.rule = sFirst)) (b_test (K := K) (e_eq (d1 := .str c.rule) (e_ix (d1 := c.d) (e_var rfl r0) e_int rfl) e_str rfl)) (fun h => ?_) (fun h => ?_)) fun v G2 H2 s2 rv => q v G2 H2 (S'.trans s2) rv
      · have h := of_decide_eq_true h
        unfold scoreL accA
        rw [if_pos h, if_pos h]
        exact e_tup3 (e_var rfl (.int _)) (e_var rfl (.int _)) (e_var rfl (.int _))
      · have h := of_decide_eq_false h
        unfold scoreL accB
        rw [if_neg h, if_neg h]
        exact e_tup1 (e_var rfl (.int _))

end

section
variable [Tbs] {P : Program} {w : World} {K : PySem.W.Frag} {mg : Str → Option Value} {base : Heap}
abbrev s_whole_untils : Stmt := top 54
abbrev N_whole_untils : List Str := ["contest"]
abbrev P_whole_untils : List Str := ["contest"]
theorem sc_whole_untils : FnScope N_whole_untils P_whole_untils (defScope s_whole_untils) := ⟨rfl, rfl, rfl, by decide +kernel, rfl, by decide +kernel, by decide +kernel⟩

def wholeU (c : Con) : List Nat := List.replicate c.tasks.length c.fin
def R_whole_untils (ds : List D) (r : List D) : Prop := ∃ c : Con, ds = [c.d] ∧ c.Ok ∧ r = (wholeU c).map natD
abbrev sp_whole_untils (K : PySem.W.Frag) : Sp := spF K R_whole_untils
theorem ok_whole_untils {f : Addr} {fd : FuncData} (F : Fun K "whole_untils" "whole_untils" s_whole_untils f fd) (T : Tx K mg) : FnOk P w K mg base CX0 1 f fd P_whole_untils (sp_whole_untils K) := by
  refine F.ok sc_whole_untils (fun vs H Q E h => ?_) (fun cdv A outer s H vs Q E hr h => ?_)
  · obtain ⟨G, ds, r, e, ra, ⟨c, rfl, oc, rfl⟩, q⟩ := h
    exact ra.len
  · obtain ⟨G, ds, r, e, ra, ⟨c, rfl, oc, rfl⟩, q⟩ := h
    obtain ⟨v0, rfl, r0⟩ := ra.one
    refine ⟨_, (pss_one (ps_ret (pe_op op_mulA (pe_lst (pa_cons (pe_ix (ix_seqK K rfl) (pv 0) pe_int (fun _ _ => rfl)) pa_nil)) (pe_callB (call_lenK K rfl) (by rfl) T.n_len (by decide +kernel) (pa_cons (pe_ix (ix_seqK K rfl) (pv 0) pe_int (fun _ _ => rfl)) pa_nil))))), ?_⟩
    try dsimp only [cxOf, Cx.nox, Cx.wish]
    have htl : (c.tasks.map tkD).length = c.tasks.length := List.length_map _
    have hmany := oc.many
    refine s_retF (K := K) e (ds := (wholeU c).map natD) (EvF.eq (f_rep (ds := [.int c.fin]) (n := c.tasks.length) (EvF.toD (f_lst (a_one (e_ix (d1 := c.d) (by walk_at "ev") e_int rfl)) (by show 1 ≤ 100000; decide))) (e_len (d := .tup (c.tasks.map tkD)) (e_ix (d1 := c.d) (by walk_at "ev") e_int rfl) (congrArg some htl)) (by show 1 * _ ≤ _; omega) (by omega)) ?_) q
    unfold wholeU
    rw [List.map_replicate]
    generalize c.tasks.length = L
    induction L with
    | zero => rfl
    | succ L ih => rw [List.replicate_succ, List.flatten_cons, ih, List.replicate_succ]; rfl

end

section
variable [Tbs] {P : Program} {w : World} {K : PySem.W.Frag} {mg : Str → Option Value} {base : Heap}
abbrev s_all_placed : Stmt := top 55
abbrev N_all_placed : List Str := ["contest", "tries", "table", "untils", "team"]
abbrev P_all_placed : List Str := ["contest", "tries", "table"]
theorem sc_all_placed : FnScope N_all_placed P_all_placed (defScope s_all_placed) := ⟨rfl, rfl, rfl, by decide +kernel, rfl, by decide +kernel, by decide +kernel⟩

def scoresL (c : Con) (ts : List Try) (tb : Nat → Nat → Option Bool) (us : List Nat) : List (List Int) := (List.range c.teams).map (scoreL c ts tb us)
def standL (c : Con) (ts : List Try) (tb : Nat → Nat → Option Bool) : List Row := placedL (scoresL c ts tb (wholeU c))
theorem scoreL_ok (c : Con) (ts : List Try) (tb : Nat → Nat → Option Bool) (us : List Nat) (t : Nat) : ScOk (scoreL c ts tb us t) := by
  unfold scoreL ScOk
  split
  · exact ⟨(fun z => nomatch z), by show 3 ≤ 10; decide⟩
  · exact ⟨(fun z => nomatch z), by show 1 ≤ 10; decide⟩
theorem scoresL_len {c : Con} {ts : List Try} {tb : Nat → Nat → Option Bool} {us : List Nat} : (scoresL c ts tb us).length = c.teams := by unfold scoresL; rw [List.length_map, List.length_range]
theorem scoresL_ok {c : Con} {ts : List Try} {tb : Nat → Nat → Option Bool} {us : List Nat} : ∀ s ∈ scoresL c ts tb us, ScOk s := fun s hs => by
  obtain ⟨t, _, rfl⟩ := List.mem_map.mp hs
  exact scoreL_ok _ _ _ _ _
def R_all_placed (ds : List D) (r : List D) : Prop := ∃ (c : Con) (ts : List Try) (kvs : List (List Key × V)) (tb : Nat → Nat → Option Bool), ds = [c.d, trsD ts, .tab kvs] ∧ c.Ok ∧ TriesOk c ts ∧ TabOk kvs tb ∧ r = (standL c ts tb).map rowD
abbrev sp_all_placed (K : PySem.W.Frag) : Sp := spFm K R_all_placed
theorem ok_all_placed {f : Addr} {fd : FuncData} (F : Fun K "all_placed" "all_placed" s_all_placed f fd) (T : Tx K mg) (d_placed : Dk P w K mg base 2 "placed" P_placed (sp_placed K)) (d_score_of : Dk P w K mg base 5 "score_of" P_score_of (sp_score_of K)) (d_whole_untils : Dk P w K mg base 1 "whole_untils" P_whole_untils (sp_whole_untils K)) : FnOk P w K mg base CX0 6 f fd P_all_placed (sp_all_placed K) := by
  refine F.ok sc_all_placed (fun vs H Q E h => ?_) (fun cdv A outer s H vs Q E hr h => ?_)
  · obtain ⟨G, ds, r, e, mk, ra, ⟨c, ts, kvs, tb, rfl, oc, ot, otb, rfl⟩, q⟩ := h
    exact ra.len
  · obtain ⟨G, ds, r, e, mk, ra, ⟨c, ts, kvs, tb, rfl, oc, ot, otb, rfl⟩, q⟩ := h
    obtain ⟨v0, v1, v2, rfl, r0, r1, r2⟩ := ra.three
    refine ⟨_, (pss_cons (ps_set (i := 3) sc_all_placed.nd rfl (by first | exact Or.inl rfl | exact Or.inr rfl) (pe_fn d_whole_untils (hr.mono (by decide)) (by rfl) (pa_cons (pv 0) pa_nil)))
    (pss_one (ps_ret (pe_fn d_placed (hr.mono (by decide)) (by rfl) (pa_cons (pe_lc (own := [("team", 4)]) (g := gName 4) (tt := tYes) rfl sc_all_placed.nd (pi_range1 (by rfl) T.n_range (pa_cons (pe_ix (ix_seqK K rfl) (pv 0) pe_int (fun _ _ => rfl)) pa_nil)) (blkOk_by (own := [("team", 4)]) (N := N_all_placed) (sc := defScope s_all_placed) (by decide +kernel)) (fun _ _ _ _ _ => (pg_name (i := 4) sc_all_placed.nd rfl (by first | exact Or.inl rfl | exact Or.inr rfl))) (fun _ _ _ _ _ => pts_nil) (fun _ _ _ _ _ => (pe_fn d_score_of (hr.mono (by decide)) (by rfl) (pa_cons (pv 0) (pa_cons (pv 1) (pa_cons (pv 2) (pa_cons (pv 4) (pa_cons (pv 3) pa_nil)))))))) pa_nil))))), ?_⟩
    try dsimp only [cxOf, Cx.nox, Cx.wish]
    have hteams := oc.teams
    refine q_asg (K := K) e (d := untD (wholeU c)) (EvF.toD (f_call (K := K) (a_one (by walk_at "ev")) ⟨c, rfl, oc, rfl⟩)) fun v3 G1 H1 s1 r3 => ?_
    have r0 := r0.ex s1.g
    have r1 := r1.ex s1.g
    have r2 := r2.ex s1.g
    have hul : (wholeU c).length = c.tasks.length := List.length_replicate
    refine s_retF (K := K) s1.i (f_callm (K := K) (mk.ex s1.g) (a_one (EvD.eq (EvF.toD (f_lc (n := c.teams) (js := [4]) (fun t => [.int t]) (fun _ => true) (fun t => scD (scoreL c ts tb (wholeU c) t)) (i_rng1' (e_ix (d1 := c.d) (by walk_at "ev") e_int rfl) (by omega)) (fun _ _ => g_name) (by omega) (fun _ _ => rfl)
      (fun us h => match us, h with | [_], _ => rfl) (fun _ _ _ _ _ _ => b_yes) (fun t ht _ G2 e2 us ru => ?_))) ?_)) ⟨scoresL c ts tb (wholeU c), rfl, scoresL_ok, by rw [scoresL_len]; omega, rfl⟩) fun p xs G2 H2 s2 h1 h2 h3 rx => q p xs G2 H2 (s1.trans s2) (s1.pre h1) h2 h3 rx
    · obtain ⟨y, rfl, ry⟩ := ru.one
      exact e_call (a_cons (e_var rfl (r0.ex e2)) (a_cons (e_var rfl (r1.ex e2)) (a_cons (e_var rfl (r2.ex e2)) (a_cons (e_var rfl ry) (a_one (e_var rfl (r3.ex e2))))))) ⟨c, ts, kvs, tb, t, wholeU c, rfl, oc, ot, otb, hul, rfl⟩
    · rw [pick_all]
      unfold scoresL
      rw [List.map_map]
      rfl

end

section
variable [Tbs] {P : Program} {w : World} {K : PySem.W.Frag} {mg : Str → Option Value} {base : Heap}
/-! ### drawn verdicts can be -/
theorem Fit.up : ∀ {n : Nat} {d : D}, Fit n d → Fit (n + 1) d
  | _, _, .non => .non
  | _, _, .bl b => .bl b
  | _, _, .int b => .int b
  | _, _, .str b => .str b
  | _, _, .tup hl h => .tup hl fun d hd => (h d hd).up
  | _, _, .lst hl h => .lst hl fun d hd => (h d hd).up
theorem rise_trials (c : Con) (ts : List Try) : ∀ i : Nat, Rise (trialsUpTo c ts i)
  | 0 => .nil
  | i + 1 => by
    rw [trialsUpTo_succ]
    refine List.pairwise_append.mpr ⟨rise_trials c ts i, List.pairwise_map.mpr (List.pairwise_lt_range.imp fun {a b} h => .inr ⟨rfl, h⟩), fun a ha b hb => ?_⟩
    obtain ⟨t, _, rfl⟩ := List.mem_map.mp hb
    exact .inl (mem_trialsUpTo.mp ha).1
theorem vers_some {c : Con} {ts : List Try} {vs sub ws : List Ver} (oc : c.Ok) (ot : TriesOk c ts) (hv : vpos vs = allTr c ts) (hs : sub.Sublist vs) (hp : ws.Perm sub) : VersOk c ts ws ∧ ws.length ≤ 4000 := by
  refine ⟨⟨fun v hw => ?_, ?_⟩, ?_⟩
  · have h1 : v ∈ vs := hs.subset (hp.mem_iff.mp hw)
    have h2 : (v.1, v.2.1) ∈ allTr c ts := by rw [← hv]; exact List.mem_map.mpr ⟨v, h1, rfl⟩
    exact mem_trialsUpTo.mp h2
  · have h1 : (sub.map fun v : Ver => (v.1, v.2.1)).Nodup := (hs.map _).nodup (by
      have h2 := (rise_trials c ts ts.length).nodup
      show (vpos vs).Nodup
      rw [hv]
      exact h2)
    exact (hp.map _).nodup_iff.mpr h1
  · have h1 := hp.length_eq
    have h2 := hs.length_le
    have h3 := congrArg List.length hv
    have h4 : (allTr c ts).length ≤ 20 * ts.length := trialsUpTo_len oc ot (Nat.le_refl _)
    have h5 := ot.len
    unfold vpos at h3
    rw [List.length_map] at h3
    omega
theorem vkD_inj {a b : List Ver} (h : vkD a = vkD b) : a = b := by
  refine map_inj' (fun a b h => ?_) h
  injection h with h1 h2
  have h3 := verK_inj h1
  injection h2 with h2
  obtain ⟨a1, a2, a3⟩ := a
  obtain ⟨b1, b2, b3⟩ := b
  injection h3 with h3 h4
  have h3 : a1 = b1 := h3
  have h4 : a2 = b2 := h4
  have h2 : a3 = b3 := h2
  subst h2 h3 h4
  rfl
/-- what _law_some tells of these truths -/
theorem some_of {vs : List Ver} {m : Nat} {es : List D} (h : R_some [.tab (vkD vs), .int m] es) : ∃ sub ws : List Ver, es = ws.map vrD ∧ sub.Sublist vs ∧ ws.Perm sub := by
  obtain ⟨vs', m', sub, ws, e1, e2, e3, e4⟩ := h
  injection e1 with e1 _
  injection e1 with e1
  have e1 := vkD_inj e1
  subst e1
  exact ⟨sub, ws, e2, e3, e4⟩
theorem tries_of {c : Con} {m : Nat} {es : List D} (h : R_tries [c.d, .int m] es) : ∃ ts : List Try, es = ts.map trD ∧ TriesOk c ts ∧ ts.length ≤ m := by
  obtain ⟨c', m', ts, e1, e2, e3, e4⟩ := h
  obtain ⟨rfl, f1⟩ := Con.args_inj e1
  have g1 : m = m' := by injection f1 with f1; exact dint_inj f1
  subst g1
  exact ⟨ts, e2, e3, e4⟩
theorem truth_of {c : Con} {ts : List Try} {d : D} (h : R_truth [c.d, trsD ts] d) : ∃ vs : List Ver, d = .tab (vkD vs) ∧ vpos vs = allTr c ts := by
  obtain ⟨c', ts', vs, e1, e2, e3⟩ := h
  obtain ⟨rfl, f1⟩ := Con.args_inj e1
  have g1 : ts = ts' := by injection f1 with f1; exact trsD_inj f1
  subst g1
  exact ⟨vs, e2, e3⟩

end

section
variable [Tbs] {P : Program} {w : World} {K : PySem.W.Frag} {mg : Str → Option Value} {base : Heap}
/-- the law's promise: it tells True; the tables of lambdas are empty at first -/
def sp_law (K : PySem.W.Frag) : Sp := fun vs H Q _ => ∃ (a : Addr) (ns : List Int), vs = [.ref a] ∧ SqL K H a (ns.map V.int) ∧ ns.length ≤ 63 ∧ (H Tbs.p1 = some (.tbl #[]) ∧ H Tbs.p2 = some (.tbl #[])) ∧ ∀ H', Q (.bl true) H'
theorem mks_of {H : Hp} (h : H Tbs.p1 = some (.tbl #[]) ∧ H Tbs.p2 = some (.tbl #[])) : Mks H := ⟨⟨H, Ex.refl _, h.1⟩, ⟨H, Ex.refl _, h.2⟩⟩

end

section
variable [Tbs] {P : Program} {w : World} {K : PySem.W.Frag} {mg : Str → Option Value} {base : Heap}
/-! ### calls with drawn arguments, tests that draw -/
section
variable {σ : L2.St} {p : Addr} {G G0 H0 G1 H : Hp} {te : TE} {t tu : TT} {as : TA} {d : D} {es : List D} {Rs : List D → Prop}
theorem rm_call {R : List D → List D → Prop} {E : XK} (m : Mks G) (h : EvRs K p as σ G fun ds => R ds es) : EvR K p (tCall (spFm K R) [] E as) σ G (fun d => d = .lst es) := fun H e g dc Q q =>
  h H e g dc _ fun vs ds G1 H1 s1 g1 d1 r1 rp1 => ⟨G1, ds, es, s1.i, m.ex s1.g, by rw [List.append_nil]; exact rp1, r1, fun l xs G2 H2 s2 h1 h2 h3 r2 => by
    have n := d1.ne h1
    have S1 : Sd p G H G1 H1 := ⟨s1, g1, d1⟩
    have S := (S1.then s2).freeze n (S1.pre h1 n) h2 h3
    exact q _ _ _ H2 S.s S.g S.d rfl (.lst upd_same (r2.ex (Ex.new h2)))⟩
theorem rf_callP {R : List D → List D → Prop} {E : XK} (h : EvRs K p as σ G fun ds => R ds es) : EvR K p (tCall (spF K R) [] E as) σ G (fun d => d = .lst es) := fun H e g dc Q q =>
  h H e g dc _ fun vs ds G1 H1 s1 g1 d1 r1 rp1 => ⟨G1, ds, es, s1.i, by rw [List.append_nil]; exact rp1, r1, fun l xs G2 H2 s2 h1 h2 h3 r2 => by
    have n := d1.ne h1
    have S1 : Sd p G H G1 H1 := ⟨s1, g1, d1⟩
    have S := (S1.then s2).freeze n (S1.pre h1 n) h2 h3
    exact q _ _ _ H2 S.s S.g S.d rfl (.lst upd_same (r2.ex (Ex.new h2)))⟩
theorem r_callP {R : List D → D → Prop} {E : XK} (h : EvRs K p as σ G fun ds => R ds d) : EvR K p (tCall (spP K R) [] E as) σ G (fun x => x = d) := fun H e g dc Q q =>
  h H e g dc _ fun vs ds G1 H1 s1 g1 d1 r1 rp1 => ⟨G1, ds, d, s1.i, by rw [List.append_nil]; exact rp1, r1, fun v G2 H2 s2 r2 => by
    have S1 : Sd p G H G1 H1 := ⟨s1, g1, d1⟩
    have S := S1.then s2
    exact q v d G2 H2 S.s S.g S.d rfl r2⟩
/-- a test that draws, its answer known -/
def EvK (p : Addr) (tt : TT) (σ : L2.St) (G : Hp) (b : Bool) : Prop := ∀ H, Ex G H → G p = none → Dice p H → ∀ Q : Bool → Hp → Prop, (∀ G' H', Sd p G H G' H' → Q b H') → tt σ H Q
theorem k_B {b : Bool} (h : EvR K p te σ G fun d => d = .bl b) : EvK p (tB te) σ G b := fun H e g dc Q q => h H e g dc _ fun v d G1 H1 s1 g1 d1 r rp => ⟨b, by subst r; exact rp.bl_of, q G1 H1 ⟨s1, g1, d1⟩⟩
theorem k_test {b : Bool} (h : EvR K p te σ G fun d => d = .bl b) : EvK p (tTest te) σ G b := fun H e g dc Q q => h H e g dc _ fun v d G1 H1 s1 g1 d1 r rp => ⟨b, by subst r; exact rp.bl_of, q G1 H1 ⟨s1, g1, d1⟩⟩
theorem k_not {b : Bool} (h : EvK p t σ G b) : EvK p (tNot t) σ G (!b) := fun H e g dc Q q => h H e g dc _ fun G1 H1 s1 => q G1 H1 s1
theorem k_of {b : Bool} (h : EvB t σ G b) : EvK p t σ G b := fun H e g dc Q q => h H e _ fun G1 H1 s => q G1 H1 ((Sd.refl e g dc).then s)
variable {Dn : Ends} {tv tz : TS}
theorem sk_no (S : Sd p G0 H0 G H) (h : EvK p t σ G false) (k : ∀ G1 H1, Sd p G H G1 H1 → Sd p G0 H0 G1 H1 → Dn.nx σ H1) : tIfS t tv tNext Dn σ H :=
  h H S.ii S.g S.d _ fun G1 H1 s => k G1 H1 s (S.trans s)
theorem qk_no (S : Sd p G0 H0 G H) (h : EvK p t σ G false) (k : ∀ G1 H1, Sd p G H G1 H1 → Sd p G0 H0 G1 H1 → tz Dn σ H1) : tSeq (tIfS t tv tNext) tz Dn σ H := sk_no (Dn := { Dn with nx := tz Dn }) S h k
/-- the first n of a drawn new list -/
theorem rf_cut {n : Nat} (h : EvRF K p te σ G Rs) : EvRF K p (tSl (rSlA K) te tNoPart (tPart (tC (.int n)))) σ G (fun es => ∃ ds, Rs ds ∧ es = ds.take n) := fun H e g dc Q q =>
  h H e g dc _ fun l xs ds G1 H1 s1 h1 h2 h3 r rp => by
    have nl := dc.ne h1
    have S := s1.freeze nl h1 h2 h3
    refine ⟨(n : Int), rfl, .inl ⟨l, xs, rfl, .of h3, fun l2 hl2 => ?_⟩⟩
    have hc : cutV xs none (some (n : Int)) = xs.take n := by
      unfold cutV
      rw [HT.sIx_none, HT.sIx_nat, List.drop_zero, Nat.sub_zero]
      by_cases hl : n ≤ xs.length
      · rw [Nat.min_eq_left hl]
      · rw [Nat.min_eq_right (by omega), List.take_of_length_le (Nat.le_refl _), List.take_of_length_le (by omega)]
    rw [hc]
    have S2 := S.own (o := .lst (xs.take n)) hl2
    have gl2 : (upd G1 l (.lst xs)) l2 = none := fresh_back S.ii hl2
    exact q l2 (xs.take n) (ds.take n) _ _ S2 (S.pre hl2 (S.d.ne hl2)) gl2 upd_same ⟨ds, r, rfl⟩ ((rp.ex (Ex.new h2)).take n)
/-- p.reverse() -/
theorem s_rev {i : Nat} {l : Addr} {xs : List V} (hx : H l = some (.lst xs)) (hi : σ[i]? = some (some (.ref l))) (k : Dn.nx σ (upd H l (.lst xs.reverse))) : tDrop (tBM0 K "list" rReverse (tVar i)) Dn σ H :=
  ⟨_, hi, Or.inl ⟨rfl, xs, .of hx⟩, l, xs, rfl, rfl, hx, k⟩
theorem q_rev {i : Nat} {l : Addr} {xs : List V} (hx : H l = some (.lst xs)) (hi : σ[i]? = some (some (.ref l))) (k : tz Dn σ (upd H l (.lst xs.reverse))) : tSeq (tDrop (tBM0 K "list" rReverse (tVar i))) tz Dn σ H := s_rev (Dn := { Dn with nx := tz Dn }) hx hi k
theorem q_clear {i : Nat} {l : Addr} {xs : List V} (hx : H l = some (.lst xs)) (hi : σ[i]? = some (some (.ref l))) (k : tz Dn σ (upd H l (.lst []))) : tSeq (tDrop (tBM0 K "list" rClear (tVar i))) tz Dn σ H :=
  ⟨_, hi, Or.inl ⟨rfl, xs, .of hx⟩, l, xs, rfl, rfl, hx, k⟩
end
/-! ### standings -/
theorem tbOf_some {vs : List Ver} (h : (vs.map fun v => (v.1, v.2.1)).Nodup) {n t : Nat} {b : Bool} : tbOf vs n t = some b ↔ (n, t, b) ∈ vs := by
  unfold tbOf
  induction vs with
  | nil => exact ⟨(fun z => nomatch z), (fun z => nomatch z)⟩
  | cons v vs ih =>
    rw [List.map_cons] at h
    obtain ⟨h1, h2⟩ := List.nodup_cons.mp h
    rw [List.find?_cons]
    by_cases hv : v.1 = n ∧ v.2.1 = t
    · rw [decide_eq_true hv]
      obtain ⟨a1, a2, a3⟩ := v
      obtain ⟨e1, e2⟩ := hv
      have e1 : a1 = n := e1
      have e2 : a2 = t := e2
      subst e1 e2
      constructor
      · intro z
        have z : a3 = b := Option.some.inj z
        subst z
        exact List.mem_cons_self
      · intro z
        rcases List.mem_cons.mp z with z | z
        · injection z with _ z
          injection z with _ z
          rw [z]
          rfl
        · exact absurd (List.mem_map.mpr ⟨_, z, rfl⟩) h1
    · rw [decide_eq_false hv, ih h2]
      constructor
      · exact fun z => List.mem_cons_of_mem _ z
      · intro z
        rcases List.mem_cons.mp z with z | z
        · exact absurd (by rw [← z]; exact ⟨rfl, rfl⟩) hv
        · exact z
theorem tbOf_perm {vs ws : List Ver} (h : (vs.map fun v => (v.1, v.2.1)).Nodup) (p : ws.Perm vs) : tbOf ws = tbOf vs := by
  funext n t
  apply Option.ext
  intro b
  rw [tbOf_some ((p.map _).nodup_iff.mpr h), tbOf_some h]
  exact p.mem_iff
theorem VersOk.perm {c : Con} {ts : List Try} {vs ws : List Ver} (o : VersOk c ts vs) (p : ws.Perm vs) : VersOk c ts ws := ⟨fun v hv => o.ok v (p.mem_iff.mp hv), (p.map _).nodup_iff.mpr o.once⟩
theorem VersOk.sub {c : Con} {ts : List Try} {vs ws : List Ver} (o : VersOk c ts vs) (p : ws.Sublist vs) : VersOk c ts ws := ⟨fun v hv => o.ok v (p.subset hv), (p.map _).nodup o.once⟩
theorem fit_scD {n : Nat} {s : List Int} (h : ScOk s) : Fit (n + 2) (scD s) := .tup (by rw [List.length_map]; have := h.2; omega) fun d hd => by
  obtain ⟨x, _, rfl⟩ := List.mem_map.mp hd
  exact .int _
theorem placedL_mem {ss : List (List Int)} {r : Row} (h : r ∈ placedL ss) : r.2.2 ∈ ss := by
  obtain ⟨t, ht, rfl⟩ := List.mem_map.mp (List.mem_mergeSort.mp h)
  exact List.mem_of_getElem? (sc_at (List.mem_range.mp ht))
theorem placedL_len {ss : List (List Int)} : (placedL ss).length = ss.length := by
  unfold placedL rowsOf
  rw [List.length_mergeSort, List.length_map, List.length_range]
theorem fit_rows {ss : List (List Int)} (h : ∀ s ∈ ss, ScOk s) (hl : ss.length ≤ 1000) : Fit 8 (.lst ((placedL ss).map rowD)) := .lst (by rw [List.length_map, placedL_len]; omega) fun d hd => by
  obtain ⟨r, hr, rfl⟩ := List.mem_map.mp hd
  refine .tup (by show 3 ≤ 1000000; decide) fun d hd => ?_
  rcases List.mem_cons.mp hd with rfl | hd
  · exact .int _
  rcases List.mem_cons.mp hd with rfl | hd
  · exact .int _
  rcases List.mem_cons.mp hd with rfl | hd
  · exact fit_scD (h _ (placedL_mem hr))
  · cases hd
theorem fit_stand {c : Con} {ts : List Try} {tb : Nat → Nat → Option Bool} (oc : c.Ok) : Fit 8 (.lst ((standL c ts tb).map rowD)) := fit_rows scoresL_ok (by rw [scoresL_len]; have := oc.teams; omega)
theorem stand_len {c : Con} {ts : List Try} {tb : Nat → Nat → Option Bool} : (standL c ts tb).length = c.teams := by
  unfold standL
  rw [placedL_len, scoresL_len]
theorem low_tr (t : Try) : (trD t).low = true := rfl
theorem low_vr (v : Ver) : (vrD v).low = true := rfl
theorem low_list {ds : List D} (h : ∀ d ∈ ds, d.plain = true ∧ d.py.canLay0 = true ∧ d.py.depth ≤ 31) : (D.lst ds).low = true := by
  have key : D.plainA ds = true ∧ PyData.canLayAll0 (D.pyA ds) = true ∧ PyData.depthAll (D.pyA ds) ≤ 31 := by
    induction ds with
    | nil => exact ⟨rfl, rfl, Nat.zero_le _⟩
    | cons d ds ih =>
      obtain ⟨p1, p2, p3⟩ := h d List.mem_cons_self
      obtain ⟨a, b, c⟩ := ih fun x hx => h x (List.mem_cons_of_mem _ hx)
      refine ⟨?_, ?_, ?_⟩
      · show (d.plain && D.plainA ds) = true
        rw [p1, a]; rfl
      · simp [D.pyA, PyData.canLayAll0, p2, b]
      · simp only [D.pyA, PyData.depthAll]
        omega
  obtain ⟨a, b, c⟩ := key
  unfold D.low
  rw [Bool.and_eq_true, Bool.and_eq_true, decide_eq_true_eq]
  refine ⟨⟨a, ?_⟩, ?_⟩
  · simp [D.py, PyData.canLay0, b]
  · simp only [D.py, PyData.depth]
    omega
theorem low_trs (ts : List Try) : (trsD ts).low = true := low_list fun d hd => by
  obtain ⟨t, _, rfl⟩ := List.mem_map.mp hd
  exact ⟨rfl, rfl, by simp [trD, vrD, D.py, D.pyA, PyData.depth, PyData.depthAll]⟩
theorem low_vrs (ts : List Ver) : (vrsD ts).low = true := low_list fun d hd => by
  obtain ⟨t, _, rfl⟩ := List.mem_map.mp hd
  exact ⟨rfl, rfl, by simp [trD, vrD, D.py, D.pyA, PyData.depth, PyData.depthAll]⟩
theorem ok_two (ts : List Try) (vs : List Ver) : (D.lst [trsD ts, vrsD vs]).ok = true := ok_lows fun d hd => by
  rcases List.mem_cons.mp hd with rfl | hd
  · exact low_trs ts
  rcases List.mem_cons.mp hd with rfl | hd
  · exact low_vrs vs
  · cases hd
theorem eqv_ok {d : D} (h : d.ok = true) : PyData.eqv d.py d.py = true := by
  unfold D.ok SeqAt.shaped at h
  rw [Bool.and_eq_true, Bool.and_eq_true] at h
  exact SeqAt.eqv_refl _ h.2.1

end

section
variable [Tbs] {P : Program} {w : World} {K : PySem.W.Frag} {mg : Str → Option Value} {base : Heap}
abbrev s_standings : Stmt := top 56
abbrev N_standings : List Str := ["contest", "tries", "verdicts"]
abbrev P_standings : List Str := ["contest", "tries", "verdicts"]
theorem sc_standings : FnScope N_standings P_standings (defScope s_standings) := ⟨rfl, rfl, rfl, by decide +kernel, rfl, by decide +kernel, by decide +kernel⟩

def R_standings (ds : List D) (r : List D) : Prop := ∃ (c : Con) (ts : List Try) (vs : List Ver), ds = [c.d, trsD ts, vrsD vs] ∧ c.Ok ∧ TriesOk c ts ∧ VersOk c ts vs ∧ vs.length ≤ 100000 ∧ r = (standL c ts (tbOf vs)).map rowD
abbrev sp_standings (K : PySem.W.Frag) : Sp := spFm K R_standings
theorem ok_standings {f : Addr} {fd : FuncData} (F : Fun K "standings" "standings" s_standings f fd) (T : Tx K mg) (d_all_placed : Dk P w K mg base 6 "all_placed" P_all_placed (sp_all_placed K)) (d_need_all : Dk P w K mg base 5 "need_all" P_need_all (sp_need_all K)) (d_table_of : Dk P w K mg base 1 "table_of" P_table_of (sp_table_of K)) : FnOk P w K mg base CX0 7 f fd P_standings (sp_standings K) := by
  refine F.ok sc_standings (fun vs H Q E h => ?_) (fun cdv A outer s H vs Q E hr h => ?_)
  · obtain ⟨G, ds, r, e, mk, ra, ⟨c, ts, vs, rfl, oc, ot, ov, hlen, rfl⟩, q⟩ := h
    exact ra.len
  · obtain ⟨G, ds, r, e, mk, ra, ⟨c, ts, vs, rfl, oc, ot, ov, hlen, rfl⟩, q⟩ := h
    obtain ⟨v0, v1, v2, rfl, r0, r1, r2⟩ := ra.three
    refine ⟨_, (pss_cons (ps_expr (pe_fn d_need_all (hr.mono (by decide)) (by rfl) (pa_cons (pv 0) (pa_cons (pv 1) (pa_cons (pv 2) pa_nil)))))
    (pss_one (ps_ret (pe_fn d_all_placed (hr.mono (by decide)) (by rfl) (pa_cons (pv 0) (pa_cons (pv 1) (pa_cons (pe_fn d_table_of (hr.mono (by decide)) (by rfl) (pa_cons (pv 2) pa_nil)) pa_nil))))))), ?_⟩
    try dsimp only [cxOf, Cx.nox, Cx.wish]
    refine q_drop e (d := .non) (e_call (a_cons (by walk_at "ev") (a_cons (by walk_at "ev") (a_one (by walk_at "ev")))) ⟨c, ts, vs, rfl, oc, ot, ov, hlen, rfl⟩) fun G1 H1 s1 => ?_
    have r0 := r0.ex s1.g
    have r1 := r1.ex s1.g
    have r2 := r2.ex s1.g
    exact s_retF s1.i (f_callm (K := K) (mk.ex s1.g) (a_cons (by walk_at "ev") (a_cons (by walk_at "ev") (a_one (e_call (a_one (by walk_at "ev")) ⟨vs, rfl, hlen, rfl⟩)))) ⟨c, ts, _, _, rfl, oc, ot, tab_ver ov.once, rfl⟩) fun p xs G2 H2 s2 h1 h2 h3 r => q p xs G2 H2 (s1.trans s2) (s1.pre h1) h2 h3 r

end

section
variable [Tbs] {P : Program} {w : World} {K : PySem.W.Frag} {mg : Str → Option Value} {base : Heap}

/-! ### judged enough -/
theorem mem_open {c : Con} {ts : List Try} {tb : Nat → Nat → Option Bool} {x : Nat × Nat} (h : x ∈ allOpen c ts tb) : x ∈ allTr c ts ∧ tb x.1 x.2 = none := by
  unfold allOpen openUpTo at h
  obtain ⟨n, hn, h⟩ := List.mem_flatMap.mp h
  obtain ⟨t, ht, rfl⟩ := List.mem_map.mp h
  unfold openTr at ht
  split at ht
  · cases ht
  unfold openTo at ht
  obtain ⟨g, hg, ht⟩ := List.mem_flatMap.mp ht
  have hg := List.mem_range.mp hg
  unfold openG at ht
  split at ht
  · cases ht
  obtain ⟨j, hj, rfl⟩ := List.mem_map.mp ht
  obtain ⟨h1, h2⟩ := List.mem_filter.mp hj
  have h1 := List.mem_range.mp h1
  refine ⟨mem_trialsUpTo.mpr ⟨List.mem_range.mp hn, ?_⟩, by simpa using h2⟩
  have hb3 := pre_succ hg
  have hb2 := pre_mono (gs := gsOf c ts n) (a := g + 1) (b := (gsOf c ts n).length) (by omega) (Nat.le_refl _)
  rw [pre_full] at hb2
  show pre (gsOf c ts n) g + j < sizeG (gsOf c ts n)
  omega
theorem sub_len {α : Type} [DecidableEq α] : ∀ {l m : List α}, l.Nodup → (∀ x ∈ l, x ∈ m) → l.length ≤ m.length
  | [], _, _, _ => Nat.zero_le _
  | x :: l, m, hn, hs => by
    obtain ⟨h1, h2⟩ := List.nodup_cons.mp hn
    have hp := List.perm_cons_erase (hs x List.mem_cons_self)
    have h3 := sub_len (l := l) (m := m.erase x) h2 fun y hy => (List.mem_erase_of_ne (fun z => h1 (by rw [← z]; exact hy))).mpr (hs y (List.mem_cons_of_mem _ hy))
    rw [hp.length_eq, List.length_cons, List.length_cons]
    omega
/-- what is known of these truths -/
structure Known (vs us : List Ver) : Prop where
  sub : ∀ u ∈ us, u ∈ vs
  nd : (vpos us).Nodup
theorem Known.len {vs us : List Ver} (k : Known vs us) : us.length ≤ vs.length := by
  have := sub_len (l := vpos us) (m := vpos vs) k.nd fun x hx => by
    obtain ⟨u, hu, rfl⟩ := List.mem_map.mp hx
    exact List.mem_map.mpr ⟨u, k.sub u hu, rfl⟩
  unfold vpos at this
  rw [List.length_map, List.length_map] at this
  exact this
theorem pos_eq {vs : List Ver} (h : (vpos vs).Nodup) {u v : Ver} (hu : u ∈ vs) (hv : v ∈ vs) (e : (u.1, u.2.1) = (v.1, v.2.1)) : u = v := inj_of_nodup h u hu v hv e
theorem Known.put {vs us : List Ver} (hn : (vpos vs).Nodup) (k : Known vs us) {v : Ver} (hv : v ∈ vs) : ∃ us', putK (vkD us) (verK v) (.bl v.2.2) = vkD us' ∧ Known vs us' ∧ us.length ≤ us'.length ∧ ((v.1, v.2.1) ∉ vpos us → us.length < us'.length) := by
  by_cases z : (v.1, v.2.1) ∈ vpos us
  · refine ⟨us, ?_, k, Nat.le_refl _, fun h => absurd z h⟩
    obtain ⟨u, hu, e⟩ := List.mem_map.mp z
    have eu := pos_eq hn (k.sub u hu) hv e
    subst eu
    unfold putK
    have hany : ((vkD us).any fun kv => decide (kv.1 = verK u)) = true := List.any_eq_true.mpr ⟨(verK u, V.bl u.2.2), List.mem_map.mpr ⟨u, hu, rfl⟩, decide_eq_true rfl⟩
    rw [if_pos hany]
    have key : ∀ kv ∈ vkD us, (if kv.1 = verK u then (kv.1, V.bl u.2.2) else kv) = kv := fun kv hkv => by
      obtain ⟨w, hw, rfl⟩ := List.mem_map.mp hkv
      split
      · rename_i h
        have h := verK_inj h
        have := pos_eq hn (k.sub w hw) hv h
        subst this
        rfl
      · rfl
    rw [List.map_congr_left key, List.map_id']
  · refine ⟨us ++ [v], vkD_put z, ⟨fun u hu => ?_, ?_⟩, by rw [List.length_append]; exact Nat.le_add_right _ _, fun _ => by rw [List.length_append]; exact Nat.lt_succ_self _⟩
    · rcases List.mem_append.mp hu with h | h
      · exact k.sub u h
      · rw [List.mem_singleton.mp h]; exact hv
    · unfold vpos at z ⊢
      rw [List.map_append]
      refine List.nodup_append.mpr ⟨k.nd, List.nodup_cons.mpr ⟨List.not_mem_nil, .nil⟩, fun a ha b hb e => z ?_⟩
      rw [List.mem_singleton.mp hb] at e
      have e' : a = (v.1, v.2.1) := e
      rw [← e']
      exact ha
/-- the verdicts told of what is known -/
def told (us : List Ver) : List Ver := (riseL (vpos us)).map fun x => (x.1, x.2, (tbOf us x.1 x.2).getD false)
theorem told_nil : told [] = [] := by unfold told riseL vpos; simp
theorem told_pos (us : List Ver) : vpos (told us) = riseL (vpos us) := by
  unfold told
  unfold vpos
  rw [List.map_map]
  exact List.map_id' _
theorem tbOf_no {us : List Ver} {n t : Nat} (h : tbOf us n t = none) : (n, t) ∉ vpos us := fun z => by
  obtain ⟨u, hu, e⟩ := List.mem_map.mp z
  unfold tbOf at h
  rw [Option.map_eq_none_iff, List.find?_eq_none] at h
  have := h u hu
  injection e with e1 e2
  exact this (decide_eq_true ⟨e1, e2⟩)
theorem told_new {us : List Ver} {x : Nat × Nat} (h : tbOf (told us) x.1 x.2 = none) : x ∉ vpos us := fun z => by
  have := tbOf_no h
  rw [told_pos] at this
  exact this ((riseL_perm _).mem_iff.mpr z)
theorem told_ok {c : Con} {ts : List Try} {vs us : List Ver} (oc : c.Ok) (ot : TriesOk c ts) (hv : vpos vs = allTr c ts) (k : Known vs us) : VersOk c ts (told us) ∧ (told us).length ≤ 4000 := by
  have hp : (vpos (told us)).Perm (vpos us) := by rw [told_pos]; exact riseL_perm _
  refine ⟨⟨fun v hw => ?_, ?_⟩, ?_⟩
  · have h1 : (v.1, v.2.1) ∈ vpos us := hp.mem_iff.mp (List.mem_map.mpr ⟨v, hw, rfl⟩)
    obtain ⟨u, hu, e⟩ := List.mem_map.mp h1
    have h2 : (v.1, v.2.1) ∈ allTr c ts := by rw [← hv, ← e]; exact List.mem_map.mpr ⟨u, k.sub u hu, rfl⟩
    exact mem_trialsUpTo.mp h2
  · exact hp.nodup_iff.mpr k.nd
  · have h1 := hp.length_eq
    have h2 := k.len
    have h3 := congrArg List.length hv
    have h4 : (allTr c ts).length ≤ 20 * ts.length := trialsUpTo_len oc ot (Nat.le_refl _)
    have h5 := ot.len
    unfold vpos at h1 h3
    rw [List.length_map] at h3
    rw [List.length_map, List.length_map] at h1
    omega
theorem ok_prs (l : List (Nat × Nat)) : (D.lst (l.map prD)).ok = true := ok_lows fun d hd => by
  obtain ⟨x, _, rfl⟩ := List.mem_map.mp hd
  rfl
theorem f_told {G : Hp} {σ : L2.St} {te tk : TE} {us vs : List Ver} {js : List Nat} {j : Nat} (k : Known vs us) (h : EvD K te σ G (.tab (vkD us))) (hw : ∀ x : List V, x.length = 1 → wipe (setAll (wipe σ js) [j] x) js = wipe σ js) (hz : us.length ≤ 1000000)
    (he : ∀ G1, Ex G G1 → ∀ y, EvD K tk (setAll (wipe σ js) [j] [y]) G1 (.tab (vkD us))) (hy : ∀ y, (setAll (wipe σ js) [j] [y])[j]? = some (some y)) :
    EvF K (tLc (iSeq K (tCB rSortedDT (tCons te tNil))) (gName j) tYes (tOp (rAddA K) (tVar j) (tTup (tCons (tDGet tk (tVar j)) tNil))) js) σ G ((told us).map vrD) := by
  have hlen : (riseL (vpos us)).length = us.length := by rw [(riseL_perm _).length_eq]; unfold vpos; rw [List.length_map]
  refine EvF.eq (f_lcm (xs := riseL (vpos us)) (Y := nth ((riseL (vpos us)).map natP)) (js := [j]) (fun _ x => [natP x]) (fun _ => true) (fun x => vrD (x.1, x.2, (tbOf us x.1 x.2).getD false))
    (i_seqL' (List.length_map _) (EvF.toD (f_sortedDN (l := vpos us) h (by unfold vkD vpos; rw [List.map_map, List.map_map]; rfl)))) (fun i x hx => by rw [nth_map hx]; exact g_name) (by omega) (fun _ _ _ => rfl) hw (fun _ _ _ _ _ _ _ => b_yes) (fun i x hx _ G2 e2 us1 ru => ?_)) ?_
  · obtain ⟨y, rfl, ry⟩ := ru.one
    have hm : x ∈ vpos us := (riseL_perm _).mem_iff.mp (List.mem_of_getElem? hx)
    obtain ⟨u, hu, rfl⟩ := List.mem_map.mp hm
    have hb : valV (vkD us) (verK u) = some (.bl u.2.2) := valV_at k.nd hu
    have hb2 : tbOf us u.1 u.2.1 = some u.2.2 := by
      have := valV_ver us u.1 u.2.1
      rw [show us.map (fun v => (verK v, V.bl v.2.2)) = vkD us from rfl, show ([.inl (u.1 : Int), .inl (u.2.1 : Int)] : List Key) = verK u from rfl, hb] at this
      cases q : tbOf us u.1 u.2.1 with
      | none => rw [q] at this; cases this
      | some b =>
        rw [q] at this
        injection this with this
        injection this with this
        rw [this]
    rw [hb2]
    exact e_catA (ds := [.int u.1, .int u.2.1]) (es := [.bl u.2.2]) (e_var (hy y) ry) (e_tup1 (e_dget (ks := verK u) (he G2 e2 y) (e_var (hy y) ry) rfl hb rfl)) (by show 2 + 1 ≤ 1000000; decide)
  · unfold told
    rw [List.filter_eq_self.mpr (fun _ _ => rfl), List.map_map]
    rfl
def Pre_enough (ds : List D) : Prop := ∃ (c : Con) (ts : List Try) (vs : List Ver), ds = [c.d, trsD ts, .tab (vkD vs)] ∧ c.Ok ∧ TriesOk c ts ∧ vpos vs = allTr c ts
def R_enough (ds : List D) (es : List D) : Prop := ∃ (c : Con) (ts : List Try) (vs ws : List Ver), ds = [c.d, trsD ts, .tab (vkD vs)] ∧ es = ws.map vrD ∧ VersOk c ts ws ∧ ws.length ≤ 4000 ∧ allOpen c ts (tbOf ws) = []
abbrev sp__law_judged_enough (K : PySem.W.Frag) : Sp := spRF K Pre_enough R_enough
end

section
variable [Tbs] {P : Program} {w : World} {K : PySem.W.Frag} {mg : Str → Option Value} {base : Heap}
abbrev s_hidden_of : Stmt := top 63
abbrev N_hidden_of : List Str := ["contest", "tries", "table", "team", "untils", "found", "task", "shown", "every", "is_solved"]
abbrev P_hidden_of : List Str := ["contest", "tries", "table", "team", "untils"]
theorem sc_hidden_of : FnScope N_hidden_of P_hidden_of (defScope s_hidden_of) := ⟨rfl, rfl, rfl, by decide +kernel, rfl, by decide +kernel, by decide +kernel⟩

/-! ### boards: the rows and what they hide -/
def hidN (c : Con) (ts : List Try) (tb : Nat → Nat → Option Bool) (team k u : Nat) : Nat := if c.rule = sFirst ∧ (solvedFrom c ts tb 0 (numsOf ts team k u)).isSome = true then 0 else (numsOf ts team k c.fin).length - (numsOf ts team k u).length
def hidU (c : Con) (ts : List Try) (tb : Nat → Nat → Option Bool) (us : List Nat) (team i : Nat) : List Nat := (List.range i).map fun k => hidN c ts tb team k (untAt us k)
theorem hidU_succ (c : Con) (ts : List Try) (tb : Nat → Nat → Option Bool) (us : List Nat) (team i : Nat) : hidU c ts tb us team (i + 1) = hidU c ts tb us team i ++ [hidN c ts tb team i (untAt us i)] := by
  unfold hidU
  rw [List.range_succ, List.map_append]
  rfl
theorem numsOf_cut {ts : List Try} {a b u f : Nat} (h : u ≤ f) : (numsOf ts a b f).filter (fun k => decide ((tryAt ts k).2.2 < u)) = numsOf ts a b u := by
  unfold numsOf
  rw [List.filter_filter]
  refine List.filter_congr fun k _ => ?_
  unfold isOf
  by_cases h1 : (tryAt ts k).2.2 < u
  · rw [decide_eq_true h1, decide_eq_true (show (tryAt ts k).2.2 < f by omega)]
    simp
  · rw [decide_eq_false h1]
    simp
theorem numsOf_mono {ts : List Try} {a b u f : Nat} (h : u ≤ f) : (numsOf ts a b u).length ≤ (numsOf ts a b f).length := by
  rw [← numsOf_cut h]
  exact List.length_filter_le _ _
theorem e_notNs {te : TE} {σ : L2.St} {G : Hp} {o : Option (Nat × Nat)} (h : EvD K te σ G (solD o)) : EvD K (tOp (fun x y H Q => y = .non ∧ Q (.bl (!decide (x = .non))) H) te (tC .non)) σ G (.bl o.isSome) := e_notN h (by cases o <;> rfl)
structure UntOk (c : Con) (us : List Nat) : Prop where
  len : us.length = c.tasks.length
  le : ∀ u ∈ us, u ≤ c.fin
theorem UntOk.at {c : Con} {us : List Nat} (o : UntOk c us) {k : Nat} (h : k < c.tasks.length) : us[k]? = some (untAt us k) ∧ untAt us k ≤ c.fin := by
  have h1 := unt_at (us := us) (k := k) (by rw [o.len]; exact h)
  exact ⟨h1, o.le _ (List.mem_of_getElem? h1)⟩
def R_hidden_of (ds : List D) (r : D) : Prop := ∃ (c : Con) (ts : List Try) (kvs : List (List Key × V)) (tb : Nat → Nat → Option Bool) (team : Nat) (us : List Nat), ds = [c.d, trsD ts, .tab kvs, .int team, untD us] ∧ c.Ok ∧ TriesOk c ts ∧ TabOk kvs tb ∧ UntOk c us ∧ r = .tup ((hidU c ts tb us team c.tasks.length).map natD)
abbrev sp_hidden_of (K : PySem.W.Frag) : Sp := spP K R_hidden_of
theorem ok_hidden_of {f : Addr} {fd : FuncData} (F : Fun K "hidden_of" "hidden_of" s_hidden_of f fd) (T : Tx K mg) (d_numbers_of : Dk P w K mg base 1 "numbers_of" P_numbers_of (sp_numbers_of K)) (d_solved_at : Dk P w K mg base 4 "solved_at" P_solved_at (sp_solved_at K)) : FnOk P w K mg base CX0 5 f fd P_hidden_of (sp_hidden_of K) := by
  refine F.ok sc_hidden_of (fun vs H Q E h => ?_) (fun cdv A outer s H vs Q E hr h => ?_)
  · obtain ⟨G, ds, r, e, ra, ⟨c, ts, kvs, tb, team, us, rfl, oc, ot, otb, ou, rfl⟩, q⟩ := h
    exact ra.len
  · obtain ⟨G, ds, r, e, ra, ⟨c, ts, kvs, tb, team, us, rfl, oc, ot, otb, ou, rfl⟩, q⟩ := h
    obtain ⟨v0, v1, v2, v3, v4, rfl, r0, r1, r2, r3, r4⟩ := ra.five
    refine ⟨_, (pss_cons (ps_set (i := 5) sc_hidden_of.nd rfl (by first | exact Or.inl rfl | exact Or.inr rfl) (pe_lst pa_nil))
    (pss_cons (ps_for PassesOwn.never rfl (pi_range1 (by rfl) T.n_range (pa_cons (pe_callB (call_lenK K rfl) (by rfl) T.n_len (by decide +kernel) (pa_cons (pe_ix (ix_seqK K rfl) (pv 0) pe_int (fun _ _ => rfl)) pa_nil)) pa_nil)) (pg_name (i := 6) sc_hidden_of.nd rfl (by first | exact Or.inl rfl | exact Or.inr rfl)) (pss_cons (ps_set (i := 7) sc_hidden_of.nd rfl (by first | exact Or.inl rfl | exact Or.inr rfl) (pe_fn d_numbers_of (hr.mono (by decide)) (by rfl) (pa_cons (pv 0) (pa_cons (pv 1) (pa_cons (pv 3) (pa_cons (pv 6) (pa_cons (pe_ix (ix_seqK K rfl) (pv 4) (pv 6) (fun _ _ => rfl)) pa_nil)))))))
    (pss_cons (ps_set (i := 8) sc_hidden_of.nd rfl (by first | exact Or.inl rfl | exact Or.inr rfl) (pe_fn d_numbers_of (hr.mono (by decide)) (by rfl) (pa_cons (pv 0) (pa_cons (pv 1) (pa_cons (pv 3) (pa_cons (pv 6) (pa_cons (pe_ix (ix_seqK K rfl) (pv 0) pe_int (fun _ _ => rfl)) pa_nil)))))))
    (pss_cons (ps_set (i := 9) sc_hidden_of.nd rfl (by first | exact Or.inl rfl | exact Or.inr rfl) (pe_and (pe_cmpR (op_eqK K rfl hr.units) (pe_ix (ix_seqK K rfl) (pv 0) pe_int (fun _ _ => rfl)) (pe_gS rfl T.c_FIRST) (nomark _)) (pe_one (pe_cmpR op_notN (pe_fn d_solved_at (hr.mono (by decide)) (by rfl) (pa_cons (pv 0) (pa_cons (pv 1) (pa_cons (pv 2) (pa_cons (pv 7) pa_nil))))) pe_non (nomark _)))))
    (pss_one (ps_expr (pe_bm PySem.F.plainAttrs_list PySem.F.slot_list_append PySem.F.type_list_append mt_append (pv 5) (pa_cons (pe_ifExp (pt_val (pv 9)) pe_int (pe_op op_sub (pe_callB (call_lenK K rfl) (by rfl) T.n_len (by decide +kernel) (pa_cons (pv 8) pa_nil)) (pe_callB (call_lenK K rfl) (by rfl) T.n_len (by decide +kernel) (pa_cons (pv 7) pa_nil)))) pa_nil))))))))
    (pss_one (ps_ret (pe_callTy (call_tupleK K rfl) (by rfl) T.n_tuple (by decide +kernel) (pa_cons (pv 5) pa_nil)))))), ?_⟩
    try dsimp only [cxOf, Cx.nox, Cx.wish]
    have hlen := ot.len
    have htl : (c.tasks.map tkD).length = c.tasks.length := List.length_map _
    have hmany := oc.many
    refine q_newL e fun p H2 hp gp s2 hx => ?_
    refine q_for (K := K) (n := c.tasks.length) (js := [6]) (E := fun i => [.int i]) s2 (i_rng1' (e_len (d := .tup (c.tasks.map tkD)) (e_ix (d1 := c.d) (e_var rfl (r0.ex s2.g)) e_int rfl) (congrArg some htl)) (by omega)) (fun _ _ => g_name)
      (fun i σ' G' H' => G' p = none ∧ (∃ xs, H' p = some (.lst xs) ∧ RpA K G' xs ((hidU c ts tb us team i).map natD)) ∧ ∃ w6 w7 w8 w9, σ' = [some v0, some v1, some v2, some v3, some v4, some (.ref p), w6, w7, w8, w9])
      (fun G3 H3 s3 => ⟨(s3.keep gp hx).1, ⟨_, (s3.keep gp hx).2, .nil⟩, _, _, _, _, rfl⟩) ?_ ?_
    · rintro Gw ew i hi σ' G' H' S' ew' ⟨g', ⟨xs, x', rx⟩, w6, w7, w8, w9, rfl⟩ G3 H3 us' s3 ru
      obtain ⟨a, rfl, ra⟩ := ru.one
      cases ra
      have S3 := S'.trans s3
      obtain ⟨g3, x3⟩ := s3.keep g' x'
      have r0 := r0.ex S3.g
      have r1 := r1.ex S3.g
      have r2 := r2.ex S3.g
      have r3 : Rp K G3 v3 (.int team) := r3.flat_any rfl
      have r4 := r4.ex S3.g
      obtain ⟨hu, hul⟩ := ou.at hi
      have hxl : xs.length = i := by rw [rx.len, List.length_map]; unfold hidU; rw [List.length_map, List.length_range]
      rw [hidU_succ]
      have hmono := numsOf_mono (ts := ts) (a := team) (b := i) hul
      have hshl : (numsOf ts team i (untAt us i)).length ≤ 200 := Nat.le_trans numsOf_len hlen
      have hnsh : ∀ n ∈ numsOf ts team i (untAt us i), n < ts.length := fun n hn => numsOf_lt' hn
      unfold hidN
      refine q_asg (K := K) S3.i (d := .lst ((numsOf ts team i (untAt us i)).map natD)) (EvF.toD (f_call (K := K) (a_cons (e_var rfl r0) (a_cons (e_var rfl r1) (a_cons (e_var rfl r3) (a_cons (e_var rfl (.int _)) (a_one (e_ix (d1 := untD us) (i := (i : Nat)) (d := natD (untAt us i)) (e_var rfl r4) (e_var rfl (.int _)) (at_mapL hu))))))) ⟨c, ts, team, i, untAt us i, rfl, hlen, rfl⟩)) fun v7 G4 H4 s4 r7 => ?_
      have S4 := S3.trans s4
      refine q_asg (K := K) S4.i (d := .lst ((numsOf ts team i c.fin).map natD)) (EvF.toD (f_call (K := K) (a_cons (e_var rfl (r0.ex s4.g)) (a_cons (e_var rfl (r1.ex s4.g)) (a_cons (e_var rfl (r3.flat_any rfl)) (a_cons (e_var rfl (.int _)) (a_one (e_ix (d1 := c.d) (e_var rfl (r0.ex s4.g)) e_int rfl)))))) ⟨c, ts, team, i, c.fin, rfl, hlen, rfl⟩)) fun v8 G5 H5 s5 r8 => ?_
      have S5 := S4.trans s5
      have r0 := r0.ex (s4.g.trans s5.g)
      have r1 := r1.ex (s4.g.trans s5.g)
      have r2 := r2.ex (s4.g.trans s5.g)
      have r7 := r7.ex s5.g
      generalize numsOf ts team i (untAt us i) = sh at r7 hmono hshl hnsh
      generalize numsOf ts team i c.fin = ev at r8 hmono
      have hl1 : (sh.map natD).length = sh.length := List.length_map _
      have hl2 : (ev.map natD).length = ev.length := List.length_map _
      refine q_asg (K := K) S5.i (d := .bl (decide (c.rule = sFirst) && (solvedFrom c ts tb 0 sh).isSome)) (e_and (e_eq (d1 := .str c.rule) (e_ix (d1 := c.d) (e_var rfl r0) e_int rfl) e_str rfl) fun _ => e_notNs (e_call (d := solD (solvedFrom c ts tb 0 sh)) (a_cons (e_var rfl r0) (a_cons (e_var rfl r1) (a_cons (e_var rfl r2) (a_one (e_var rfl r7))))) ⟨c, ts, kvs, tb, sh, rfl, oc, ot, otb, hnsh, hshl, rfl⟩)) fun v9 G6 H6 s6 r9 => ?_
      have S6 := S5.trans s6
      obtain ⟨g6, x6⟩ := (s4.trans (s5.trans s6)).keep g3 x3
      have e36 : Ex G3 G6 := s4.g.trans (s5.g.trans s6.g)
      refine s_app (K := K) (d := natD (if c.rule = sFirst ∧ (solvedFrom c ts tb 0 sh).isSome = true then 0 else ev.length - sh.length)) S6.i g6 x6 rfl (e_if (a := decide (c.rule = sFirst) && (solvedFrom c ts tb 0 sh).isSome) (b_test (K := K) (e_var rfl r9)) (fun h => ?_) (fun h => ?_)) (by omega) fun v G7 H7 s7 g7 rv => ?_
      · have h := (Bool.and_eq_true _ _).mp h
        rw [if_pos ⟨of_decide_eq_true h.1, h.2⟩]
        exact e_int
      · rw [if_neg (fun z => by rw [decide_eq_true z.1, z.2] at h; cases h)]
        exact EvD.int (e_sub (i := (ev.length : Nat)) (j := (sh.length : Nat)) (e_len (d := .lst (ev.map natD)) (e_var rfl (r8.ex s6.g)) (congrArg some hl2)) (e_len (d := .lst (sh.map natD)) (e_var rfl (r7.ex s6.g)) (congrArg some hl1))) (by omega)
      · refine ⟨G7, (S6.trans s7).mut hp g7, ew'.trans (s3.g.trans (e36.trans s7.g)), g7, ⟨_, upd_same, ?_⟩, _, _, _, _, rfl⟩
        rw [List.map_append]
        exact (rx.ex (s3.g.trans (e36.trans s7.g))).snoc rv
    · rintro σ' G' H' S' ew ⟨g', ⟨xs, x', rx⟩, w6, w7, w8, w9, rfl⟩
      have S3 := S'.freeze hp g' x'
      exact s_ret (K := K) S3.i (e_tuple (ds := (hidU c ts tb us team c.tasks.length).map natD) (e_var rfl (.lst upd_same (rx.ex (Ex.new g'))))) fun v G4 H4 s4 rv => q v G4 H4 (S3.trans s4) rv

end

section
variable [Tbs] {P : Program} {w : World} {K : PySem.W.Frag} {mg : Str → Option Value} {base : Heap}
abbrev s_rows_of : Stmt := top 64
abbrev N_rows_of : List Str := ["contest", "tries", "table", "untils", "scores", "found", "place", "team", "score"]
abbrev P_rows_of : List Str := ["contest", "tries", "table", "untils"]
theorem sc_rows_of : FnScope N_rows_of P_rows_of (defScope s_rows_of) := ⟨rfl, rfl, rfl, by decide +kernel, rfl, by decide +kernel, by decide +kernel⟩

abbrev BRow := Nat × Nat × List Int × List Nat
def brD (r : BRow) : D := .tup [.int r.1, .int r.2.1, scD r.2.2.1, .tup (r.2.2.2.map natD)]
def untsD (uss : List (List Nat)) : D := .lst (uss.map untD)
def untsAt (uss : List (List Nat)) (t : Nat) : List Nat := uss.getD t []
theorem unts_at {uss : List (List Nat)} {t : Nat} (h : t < uss.length) : uss[t]? = some (untsAt uss t) := by
  unfold untsAt
  rw [List.getD_eq_getElem?_getD, List.getElem?_eq_getElem h]
  rfl
structure UntsOk (c : Con) (uss : List (List Nat)) : Prop where
  len : uss.length = c.teams
  ok : ∀ us ∈ uss, UntOk c us
theorem UntsOk.at {c : Con} {uss : List (List Nat)} (o : UntsOk c uss) {t : Nat} (h : t < c.teams) : uss[t]? = some (untsAt uss t) ∧ UntOk c (untsAt uss t) := by
  have h1 := unts_at (uss := uss) (t := t) (by rw [o.len]; exact h)
  exact ⟨h1, o.ok _ (List.mem_of_getElem? h1)⟩
def scoresB (c : Con) (ts : List Try) (tb : Nat → Nat → Option Bool) (uss : List (List Nat)) : List (List Int) := (List.range c.teams).map fun t => scoreL c ts tb (untsAt uss t) t
theorem scoresB_len {c : Con} {ts : List Try} {tb : Nat → Nat → Option Bool} {uss : List (List Nat)} : (scoresB c ts tb uss).length = c.teams := by unfold scoresB; rw [List.length_map, List.length_range]
theorem scoreL_ok' (c : Con) (ts : List Try) (tb : Nat → Nat → Option Bool) (us : List Nat) (t : Nat) : ScOk (scoreL c ts tb us t) := by
  unfold scoreL ScOk
  split
  · exact ⟨(fun z => nomatch z), by show 3 ≤ 10; decide⟩
  · exact ⟨(fun z => nomatch z), by show 1 ≤ 10; decide⟩
theorem scoresB_ok {c : Con} {ts : List Try} {tb : Nat → Nat → Option Bool} {uss : List (List Nat)} : ∀ s ∈ scoresB c ts tb uss, ScOk s := fun s hs => by
  obtain ⟨t, _, rfl⟩ := List.mem_map.mp hs
  exact scoreL_ok' _ _ _ _ _
def boardL (c : Con) (ts : List Try) (tb : Nat → Nat → Option Bool) (uss : List (List Nat)) : List BRow := (placedL (scoresB c ts tb uss)).map fun r => (r.1, r.2.1, r.2.2, hidU c ts tb (untsAt uss r.2.1) r.2.1 c.tasks.length)
theorem placedL_team {ss : List (List Int)} {r : Row} (h : r ∈ placedL ss) : r.2.1 < ss.length := by
  obtain ⟨t, ht, rfl⟩ := List.mem_map.mp (List.mem_mergeSort.mp h)
  exact List.mem_range.mp ht
theorem placedL_len' {ss : List (List Int)} : (placedL ss).length = ss.length := by
  unfold placedL rowsOf
  rw [List.length_mergeSort, List.length_map, List.length_range]
def R_rows_of (ds : List D) (r : List D) : Prop := ∃ (c : Con) (ts : List Try) (kvs : List (List Key × V)) (tb : Nat → Nat → Option Bool) (uss : List (List Nat)), ds = [c.d, trsD ts, .tab kvs, untsD uss] ∧ c.Ok ∧ TriesOk c ts ∧ TabOk kvs tb ∧ UntsOk c uss ∧ r = (boardL c ts tb uss).map brD
abbrev sp_rows_of (K : PySem.W.Frag) : Sp := spFm K R_rows_of
theorem ok_rows_of {f : Addr} {fd : FuncData} (F : Fun K "rows_of" "rows_of" s_rows_of f fd) (T : Tx K mg) (d_hidden_of : Dk P w K mg base 5 "hidden_of" P_hidden_of (sp_hidden_of K)) (d_placed : Dk P w K mg base 2 "placed" P_placed (sp_placed K)) (d_score_of : Dk P w K mg base 5 "score_of" P_score_of (sp_score_of K)) : FnOk P w K mg base CX0 6 f fd P_rows_of (sp_rows_of K) := by
  refine F.ok sc_rows_of (fun vs H Q E h => ?_) (fun cdv A outer s H vs Q E hr h => ?_)
  · obtain ⟨G, ds, r, e, mk, ra, ⟨c, ts, kvs, tb, uss, rfl, oc, ot, otb, ou, rfl⟩, q⟩ := h
    exact ra.len
  · obtain ⟨G, ds, r, e, mk, ra, ⟨c, ts, kvs, tb, uss, rfl, oc, ot, otb, ou, rfl⟩, q⟩ := h
    obtain ⟨v0, v1, v2, v3, rfl, r0, r1, r2, r3⟩ := ra.four
    refine ⟨_, (pss_cons (ps_setLc (i := 4) (own := [("team", 7)]) (g := gName 7) (tt := tYes) rfl sc_rows_of.nd rfl rfl (sw_true rfl rfl rfl (by decide +kernel)) (pi_range1 (by rfl) T.n_range (pa_cons (pe_ix (ix_seqK K rfl) (pv 0) pe_int (fun _ _ => rfl)) pa_nil)) (blkOk_by (own := [("team", 7)]) (N := N_rows_of) (sc := defScope s_rows_of) (by decide +kernel)) (fun _ _ _ _ _ => (pg_name (i := 7) sc_rows_of.nd rfl (by first | exact Or.inl rfl | exact Or.inr rfl))) (fun _ _ _ _ _ => pts_nil) (fun _ _ _ _ _ => (pe_fn d_score_of (hr.mono (by decide)) (by rfl) (pa_cons (pv 0) (pa_cons (pv 1) (pa_cons (pv 2) (pa_cons (pv 7) (pa_cons (pe_ix (ix_seqK K rfl) (pv 3) (pv 7) (fun _ _ => rfl)) pa_nil))))))))
    (pss_cons (ps_set (i := 5) sc_rows_of.nd rfl (by first | exact Or.inl rfl | exact Or.inr rfl) (pe_lst pa_nil))
    (pss_cons (ps_for PassesOwn.never rfl (pi_seqK K rfl (pe_fn d_placed (hr.mono (by decide)) (by rfl) (pa_cons (pv 4) pa_nil))) (pg_tup rfl (pgs_cons (pg_name (i := 6) sc_rows_of.nd rfl (by first | exact Or.inl rfl | exact Or.inr rfl)) (pgs_cons (pg_name (i := 7) sc_rows_of.nd rfl (by first | exact Or.inl rfl | exact Or.inr rfl)) (pgs_cons (pg_name (i := 8) sc_rows_of.nd rfl (by first | exact Or.inl rfl | exact Or.inr rfl)) pgs_nil)))) (pss_one (ps_expr (pe_bm PySem.F.plainAttrs_list PySem.F.slot_list_append PySem.F.type_list_append mt_append (pv 5) (pa_cons (pe_tup (pa_cons (pv 6) (pa_cons (pv 7) (pa_cons (pv 8) (pa_cons (pe_fn d_hidden_of (hr.mono (by decide)) (by rfl) (pa_cons (pv 0) (pa_cons (pv 1) (pa_cons (pv 2) (pa_cons (pv 7) (pa_cons (pe_ix (ix_seqK K rfl) (pv 3) (pv 7) (fun _ _ => rfl)) pa_nil)))))) pa_nil))))) pa_nil)))))
    (pss_one (ps_ret (pv 5)))))), ?_⟩
    try dsimp only [cxOf, Cx.nox, Cx.wish]
    have hteams := oc.teams
    refine q_asg (K := K) e (d := .lst ((scoresB c ts tb uss).map scD)) (EvD.eq (EvF.toD (f_lc (n := c.teams) (js := [7]) (fun t => [.int t]) (fun _ => true) (fun t => scD (scoreL c ts tb (untsAt uss t) t)) (i_rng1' (e_ix (d1 := c.d) (by walk_at "ev") e_int rfl) (by omega)) (fun _ _ => g_name) (by omega) (fun _ _ => rfl)
      (fun us h => match us, h with | [_], _ => rfl) (fun _ _ _ _ _ _ => b_yes) (fun t ht _ G2 e2 us ru => ?_))) ?_) fun v4 G1 H1 s1 r4 => ?_
    · obtain ⟨y, rfl, ry⟩ := ru.one
      obtain ⟨h1, h2⟩ := ou.at ht
      exact e_call (a_cons (e_var rfl (r0.ex e2)) (a_cons (e_var rfl (r1.ex e2)) (a_cons (e_var rfl (r2.ex e2)) (a_cons (e_var rfl ry) (a_one (e_ix (d1 := untsD uss) (i := (t : Nat)) (e_var rfl (r3.ex e2)) (e_var rfl ry) (at_mapL h1))))))) ⟨c, ts, kvs, tb, t, untsAt uss t, rfl, oc, ot, otb, h2.len, rfl⟩
    · rw [pick_all]
      unfold scoresB
      rw [List.map_map]
      rfl
    have hpl : (placedL (scoresB c ts tb uss)).length = c.teams := by rw [placedL_len', scoresB_len]
    have hpt : ∀ r ∈ placedL (scoresB c ts tb uss), r.2.1 < c.teams := fun r hr => by
      have := placedL_team hr
      rw [scoresB_len] at this
      exact this
    refine q_newL s1.i fun p H2 hp gp s2 hx => ?_
    have S2 := s1.trans s2
    have hp0 := s1.pre hp
    have r0 := r0.ex s1.g
    have r1 := r1.ex s1.g
    have r2 := r2.ex s1.g
    have r3 := r3.ex s1.g
    have mk1 := mk.ex s1.g
    refine q_for (K := K) (n := (placedL (scoresB c ts tb uss)).length) (js := [6, 7, 8]) (E := fun i => match (placedL (scoresB c ts tb uss))[i]? with | some r => [.int r.1, .int r.2.1, scD r.2.2] | none => []) S2
      (i_seqL' (List.length_map (f := rowD)) (EvF.toD (f_callm (K := K) mk1 (a_one (e_var rfl r4)) ⟨scoresB c ts tb uss, rfl, scoresB_ok, by rw [scoresB_len]; omega, rfl⟩)))
      (fun i hi => by rw [nth_map (List.getElem?_eq_getElem hi), List.getElem?_eq_getElem hi]; exact g_three)
      (fun i σ' G' H' => G' p = none ∧ (∃ xs, H' p = some (.lst xs) ∧ RpA K G' xs (((boardL c ts tb uss).take i).map brD)) ∧ ∃ w6 w7 w8, σ' = [some v0, some v1, some v2, some v3, some v4, some (.ref p), w6, w7, w8])
      (fun G3 H3 s3 => ⟨(s3.keep gp hx).1, ⟨_, (s3.keep gp hx).2, .nil⟩, _, _, _, rfl⟩) ?_ ?_
    · rintro Gw ew i hi σ' G' H' S' ew' ⟨g', ⟨xs, x', rx⟩, w6, w7, w8, rfl⟩ G3 H3 us s3 ru
      have hri : (placedL (scoresB c ts tb uss))[i]? = some (placedL (scoresB c ts tb uss))[i] := List.getElem?_eq_getElem hi
      have hrm := List.getElem_mem hi
      generalize (placedL (scoresB c ts tb uss))[i] = r at hri hrm
      have ru : RpA K G3 us (match (placedL (scoresB c ts tb uss))[i]? with | some r => [.int r.1, .int r.2.1, scD r.2.2] | none => []) := ru
      rw [hri] at ru
      obtain ⟨a, b, c', rfl, ra, rb, rc⟩ := ru.three
      cases ra
      cases rb
      have hteam := hpt r hrm
      obtain ⟨h1, h2⟩ := ou.at hteam
      have S3 := S'.trans s3
      obtain ⟨g3, x3⟩ := s3.keep g' x'
      have e3 : Ex G1 G3 := ew.trans (ew'.trans s3.g)
      have r0 := r0.ex e3
      have r1 := r1.ex e3
      have r2 := r2.ex e3
      have r3 := r3.ex e3
      have hbi : (boardL c ts tb uss)[i]? = some (r.1, r.2.1, r.2.2, hidU c ts tb (untsAt uss r.2.1) r.2.1 c.tasks.length) := by
        unfold boardL
        rw [List.getElem?_map, hri]
        rfl
      have hxl : xs.length ≤ 12 := by
        rw [rx.len, List.length_map, List.length_take]
        omega
      refine s_app (K := K) (d := brD (r.1, r.2.1, r.2.2, hidU c ts tb (untsAt uss r.2.1) r.2.1 c.tasks.length)) S3.i g3 x3 rfl (e_tup (a_cons (e_var rfl (.int _)) (a_cons (e_var rfl (.int _)) (a_cons (e_var rfl rc) (a_one (e_call (a_cons (e_var rfl r0) (a_cons (e_var rfl r1) (a_cons (e_var rfl r2) (a_cons (e_var rfl (.int _)) (a_one (e_ix (d1 := untsD uss) (i := (r.2.1 : Nat)) (e_var rfl r3) (e_var rfl (.int _)) (at_mapL h1))))))) ⟨c, ts, kvs, tb, r.2.1, untsAt uss r.2.1, rfl, oc, ot, otb, h2, rfl⟩))))) (by show 4 ≤ 100000; decide)) (by omega) fun v G4 H4 s4 g4 rv => ?_
      refine ⟨G4, (S3.trans s4).mut hp0 g4, ew'.trans (s3.g.trans s4.g), g4, ⟨_, upd_same, ?_⟩, _, _, _, rfl⟩
      rw [take_snoc hbi, List.map_append]
      exact (rx.ex (s3.g.trans s4.g)).snoc rv
    · rintro σ' G' H' S' ew ⟨g', ⟨xs, x', rx⟩, w6, w7, w8, rfl⟩
      have hl : (boardL c ts tb uss).length = (placedL (scoresB c ts tb uss)).length := List.length_map _
      rw [← hl, List.take_length] at rx
      exact ⟨_, rfl, q p xs G' H' S' hp0 g' x' rx⟩

end

section
variable [Tbs] {P : Program} {w : World} {K : PySem.W.Frag} {mg : Str → Option Value} {base : Heap}
abbrev s_frozen_untils : Stmt := top 65
abbrev N_frozen_untils : List Str := ["contest", "team"]
abbrev P_frozen_untils : List Str := ["contest"]
theorem sc_frozen_untils : FnScope N_frozen_untils P_frozen_untils (defScope s_frozen_untils) := ⟨rfl, rfl, rfl, by decide +kernel, rfl, by decide +kernel, by decide +kernel⟩

def frozenU (c : Con) : List (List Nat) := List.replicate c.teams (List.replicate c.tasks.length c.frozen)
theorem frozenU_ok {c : Con} (oc : c.Ok) : UntsOk c (frozenU c) := ⟨List.length_replicate, fun us hu => by
  rw [(List.mem_replicate.mp hu).2]
  exact ⟨List.length_replicate, fun u hu => by rw [(List.mem_replicate.mp hu).2]; exact oc.frozen⟩⟩
theorem rep_nat (L n : Nat) : (List.replicate L [D.int n]).flatten = (List.replicate L n).map natD := by
  induction L with
  | zero => rfl
  | succ L ih => rw [List.replicate_succ, List.flatten_cons, ih, List.replicate_succ]; rfl
theorem nat_rep (L n : Nat) : ((List.replicate L [D.int n]).flatten).map D.toV = (List.replicate L n).map fun n : Nat => V.int n := by
  rw [rep_nat, List.map_map]
  rfl
def frozenR (c : Con) : List (List D) := (frozenU c).map fun us => us.map natD
theorem frozenR_lst (c : Con) : (frozenR c).map D.lst = (frozenU c).map untD := by
  unfold frozenR
  rw [List.map_map]
  rfl
theorem flat_natD (us : List Nat) : (us.map natD).all D.flat = true := by
  rw [List.all_map]
  exact List.all_eq_true.mpr fun b _ => rfl
theorem frozenR_flat (c : Con) : ∀ x ∈ frozenR c, x.all D.flat = true := fun x hx => by
  obtain ⟨us, _, rfl⟩ := List.mem_map.mp hx
  exact flat_natD us
theorem frozenR_range (c : Con) : ((List.range c.teams).map fun _ => ((List.replicate c.tasks.length [D.int c.frozen]).flatten).map D.toV) = (frozenR c).map fun l => l.map D.toV := by
  have e : (frozenR c).map (fun l => l.map D.toV) = List.replicate c.teams (((List.replicate c.tasks.length c.frozen).map natD).map D.toV) := by
    unfold frozenR frozenU
    rw [List.map_replicate, List.map_replicate]
  rw [e, rep_nat]
  generalize c.teams = n
  apply List.ext_getElem?
  intro i
  rw [List.getElem?_map, List.getElem?_replicate]
  by_cases h : i < n
  · rw [List.getElem?_range h, if_pos h]; rfl
  · rw [List.getElem?_eq_none (by rw [List.length_range]; omega), if_neg h]; rfl
def R_frozen_untils (ds : List D) (r : List (List D)) : Prop := ∃ c : Con, ds = [c.d] ∧ c.Ok ∧ r = frozenR c
abbrev sp_frozen_untils (K : PySem.W.Frag) : Sp := spFF K R_frozen_untils
theorem ok_frozen_untils {f : Addr} {fd : FuncData} (F : Fun K "frozen_untils" "frozen_untils" s_frozen_untils f fd) (T : Tx K mg) : FnOk P w K mg base CX0 1 f fd P_frozen_untils (sp_frozen_untils K) := by
  refine F.ok sc_frozen_untils (fun vs H Q E h => ?_) (fun cdv A outer s H vs Q E hr h => ?_)
  · obtain ⟨G, ds, r, e, ra, ⟨c, rfl, oc, rfl⟩, q⟩ := h
    exact ra.len
  · obtain ⟨G, ds, r, e, ra, ⟨c, rfl, oc, rfl⟩, q⟩ := h
    obtain ⟨v0, rfl, r0⟩ := ra.one
    refine ⟨_, (pss_one (ps_ret (pe_lc (own := [("team", 1)]) (g := gName 1) (tt := tYes) rfl sc_frozen_untils.nd (pi_range1 (by rfl) T.n_range (pa_cons (pe_ix (ix_seqK K rfl) (pv 0) pe_int (fun _ _ => rfl)) pa_nil)) (blkOk_by (own := [("team", 1)]) (N := N_frozen_untils) (sc := defScope s_frozen_untils) (by decide +kernel)) (fun _ _ _ _ _ => (pg_name (i := 1) sc_frozen_untils.nd rfl (by first | exact Or.inl rfl | exact Or.inr rfl))) (fun _ _ _ _ _ => pts_nil) (fun _ _ _ _ _ => (pe_op op_mulA (pe_lst (pa_cons (pe_ix (ix_seqK K rfl) (pv 0) pe_int (fun _ _ => rfl)) pa_nil)) (pe_callB (call_lenK K rfl) (by rfl) T.n_len (by decide +kernel) (pa_cons (pe_ix (ix_seqK K rfl) (pv 0) pe_int (fun _ _ => rfl)) pa_nil))))))), ?_⟩
    try dsimp only [cxOf, Cx.nox, Cx.wish]
    have htl : (c.tasks.map tkD).length = c.tasks.length := List.length_map _
    have hmany := oc.many
    have hteams := oc.teams
    refine f_lcN (n := c.teams) (js := [1]) (fun t => [.int t]) (fun _ => (List.replicate c.tasks.length [D.int c.frozen]).flatten) (i_rng1' (e_ix (d1 := c.d) (by walk_at "ev") e_int rfl) (by omega)) (fun _ _ => g_name) (by omega) (fun _ _ => rfl) (fun _ => by rw [rep_nat]; exact flat_natD _)
      (fun us h => match us, h with | [_], _ => rfl) (fun t ht G2 e2 us ru => ?_) e _ fun p ls G' H' s h1 h2 h3 hp o => q p ls G' H' s h1 h2 h3 hp (by rw [← frozenR_range]; exact o)
    obtain ⟨y, rfl, ry⟩ := ru.one
    exact f_rep (ds := [.int c.frozen]) (n := c.tasks.length) (EvF.toD (f_lst (a_one (e_ix (d1 := c.d) (e_var rfl (r0.ex e2)) e_int rfl)) (by show 1 ≤ 100000; decide))) (e_len (d := .tup (c.tasks.map tkD)) (e_ix (d1 := c.d) (e_var rfl (r0.ex e2)) e_int rfl) (congrArg some htl)) (by show 1 * _ ≤ _; omega) (by omega)

end

section
variable [Tbs] {P : Program} {w : World} {K : PySem.W.Frag} {mg : Str → Option Value} {base : Heap}
abbrev s_board : Stmt := top 66
abbrev N_board : List Str := ["contest", "tries", "verdicts"]
abbrev P_board : List Str := ["contest", "tries", "verdicts"]
theorem sc_board : FnScope N_board P_board (defScope s_board) := ⟨rfl, rfl, rfl, by decide +kernel, rfl, by decide +kernel, by decide +kernel⟩

def R_board (ds : List D) (r : List D) : Prop := ∃ (c : Con) (ts : List Try) (vs : List Ver), ds = [c.d, trsD ts, vrsD vs] ∧ c.Ok ∧ TriesOk c ts ∧ VersOk c ts vs ∧ vs.length ≤ 100000 ∧ r = (boardL c ts (tbOf vs) (frozenU c)).map brD
abbrev sp_board (K : PySem.W.Frag) : Sp := spFm K R_board
theorem ok_board {f : Addr} {fd : FuncData} (F : Fun K "board" "board" s_board f fd) (T : Tx K mg) (d_frozen_untils : Dk P w K mg base 1 "frozen_untils" P_frozen_untils (sp_frozen_untils K)) (d_need_all : Dk P w K mg base 5 "need_all" P_need_all (sp_need_all K)) (d_rows_of : Dk P w K mg base 6 "rows_of" P_rows_of (sp_rows_of K)) (d_table_of : Dk P w K mg base 1 "table_of" P_table_of (sp_table_of K)) : FnOk P w K mg base CX0 7 f fd P_board (sp_board K) := by
  refine F.ok sc_board (fun vs H Q E h => ?_) (fun cdv A outer s H vs Q E hr h => ?_)
  · obtain ⟨G, ds, r, e, mk, ra, ⟨c, ts, vs, rfl, oc, ot, ov, hlen, rfl⟩, q⟩ := h
    exact ra.len
  · obtain ⟨G, ds, r, e, mk, ra, ⟨c, ts, vs, rfl, oc, ot, ov, hlen, rfl⟩, q⟩ := h
    obtain ⟨v0, v1, v2, rfl, r0, r1, r2⟩ := ra.three
    refine ⟨_, (pss_cons (ps_expr (pe_fn d_need_all (hr.mono (by decide)) (by rfl) (pa_cons (pv 0) (pa_cons (pv 1) (pa_cons (pv 2) pa_nil)))))
    (pss_one (ps_ret (pe_fn d_rows_of (hr.mono (by decide)) (by rfl) (pa_cons (pv 0) (pa_cons (pv 1) (pa_cons (pe_fn d_table_of (hr.mono (by decide)) (by rfl) (pa_cons (pv 2) pa_nil)) (pa_cons (pe_fn d_frozen_untils (hr.mono (by decide)) (by rfl) (pa_cons (pv 0) pa_nil)) pa_nil)))))))), ?_⟩
    try dsimp only [cxOf, Cx.nox, Cx.wish]
    refine q_drop e (d := .non) (e_call (a_cons (by walk_at "ev") (a_cons (by walk_at "ev") (a_one (by walk_at "ev")))) ⟨c, ts, vs, rfl, oc, ot, ov, hlen, rfl⟩) fun G1 H1 s1 => ?_
    have r0 := r0.ex s1.g
    have r1 := r1.ex s1.g
    have r2 := r2.ex s1.g
    exact s_retF s1.i (f_callm (K := K) (mk.ex s1.g) (a_cons (by walk_at "ev") (a_cons (by walk_at "ev") (a_cons (e_call (a_one (by walk_at "ev")) ⟨vs, rfl, hlen, rfl⟩) (a_one (EvD.eq (EvF.toD (f_callFF (a_one (by walk_at "ev")) ⟨c, rfl, oc, rfl⟩ (frozenR_flat c))) (congrArg D.lst (frozenR_lst c))))))) ⟨c, ts, _, _, frozenU c, rfl, oc, ot, tab_ver ov.once, frozenU_ok oc, rfl⟩) fun p xs G2 H2 s2 h1 h2 h3 r => q p xs G2 H2 (s1.trans s2) (s1.pre h1) h2 h3 r

end

section
variable [Tbs] {P : Program} {w : World} {K : PySem.W.Frag} {mg : Str → Option Value} {base : Heap}
/-! ### tables filled -/
theorem valV_setK (kvs : List (List Key × V)) (k k' : List Key) (v : V) : valV (setK kvs k v) k' = (match valV kvs k' with | some x => some x | none => if k' = k then some v else none) := by
  unfold setK
  cases h : valV kvs k with
  | some x =>
    rw [if_pos (show (some x).isSome = true from rfl)]
    by_cases e : k' = k
    · subst e; rw [h]
    · rw [if_neg e]; cases valV kvs k' <;> rfl
  | none =>
    rw [if_neg (by simp), valV_put]
    by_cases e : k' = k
    · subst e; rw [if_pos rfl, h, if_pos rfl]
    · rw [if_neg e, if_neg e]; cases valV kvs k' <;> rfl
def setAllK (kvs : List (List Key × V)) (l : List (Nat × Nat)) (v : V) : List (List Key × V) := l.foldl (fun acc x => setK acc (natK x) v) kvs
theorem natK_inj {a b : Nat × Nat} (h : natK a = natK b) : a = b := by
  unfold natK at h
  injection h with h1 h2
  injection h2 with h2 _
  injection h1 with h1
  injection h2 with h2
  exact Prod.ext (by omega) (by omega)
theorem valV_setAll (l : List (Nat × Nat)) (v : V) (x : Nat × Nat) : ∀ kvs, valV (setAllK kvs l v) (natK x) = (match valV kvs (natK x) with | some y => some y | none => if x ∈ l then some v else none) := by
  induction l with
  | nil => intro kvs; cases h : valV kvs (natK x) <;> simp [setAllK, h]
  | cons a l ih =>
    intro kvs
    show valV (setAllK (setK kvs (natK a) v) l v) (natK x) = _
    rw [ih, valV_setK]
    cases h : valV kvs (natK x) with
    | some y => rfl
    | none =>
      by_cases e : x = a
      · subst e; simp
      · rw [if_neg (fun z => e (natK_inj z))]
        show (if x ∈ l then some v else none) = _
        by_cases hm : x ∈ l
        · rw [if_pos hm, if_pos (List.mem_cons_of_mem _ hm)]
        · rw [if_neg hm, if_neg (fun z => (List.mem_cons.mp z).elim e hm)]
theorem putK_fresh {kvs : List (List Key × V)} {k : List Key} {v : V} (h : valV kvs k = none) : putK kvs k v = kvs ++ [(k, v)] := by
  unfold putK
  have e : (kvs.any fun kv => decide (kv.1 = k)) = false := by rw [valV_any, h]; rfl
  rw [e]
  rfl
theorem valV_mem {kvs : List (List Key × V)} {k : List Key} (h : k ∈ kvs.map (·.1)) : (valV kvs k).isSome = true := by
  rw [← valV_any, List.any_eq_true]
  obtain ⟨x, hx, e⟩ := List.mem_map.mp h
  exact ⟨x, hx, decide_eq_true e⟩
theorem small_set {kvs : List (List Key × V)} {x : Nat × Nat} {v : V} (h : Small (kvs.map (·.1))) (hx : x.1 < 200 ∧ x.2 < 20) : Small ((setK kvs (natK x) v).map (·.1)) := by
  unfold setK
  cases q : valV kvs (natK x) with
  | some y => rw [if_pos (show (some y).isSome = true from rfl)]; exact h
  | none =>
    rw [if_neg (by simp), putK_fresh q, List.map_append]
    obtain ⟨l, e, h1, h2⟩ := h
    refine ⟨l ++ [x], by rw [e, List.map_append]; rfl, fun y hy => ?_, List.nodup_append.mpr ⟨h2, List.nodup_cons.mpr ⟨List.not_mem_nil, .nil⟩, fun a ha b hb z => ?_⟩⟩
    · rcases List.mem_append.mp hy with hy | hy
      · exact h1 y hy
      · rw [List.mem_singleton.mp hy]; exact hx
    · rw [List.mem_singleton.mp hb] at z
      subst z
      have := valV_mem (kvs := kvs) (k := natK a) (by rw [e]; exact List.mem_map_of_mem ha)
      rw [q] at this
      cases this
theorem small_setAll {l : List (Nat × Nat)} {v : V} (hl : ∀ x ∈ l, x.1 < 200 ∧ x.2 < 20) : ∀ {kvs : List (List Key × V)}, Small (kvs.map (·.1)) → Small ((setAllK kvs l v).map (·.1)) := by
  induction l with
  | nil => exact fun h => h
  | cons a l ih =>
    intro kvs h
    exact ih (fun x hx => hl x (List.mem_cons_of_mem _ hx)) (small_set h (hl a List.mem_cons_self))
theorem nodup_len4 {l : List (Nat × Nat)} (hn : l.Nodup) (hl : ∀ x ∈ l, x.1 < 200 ∧ x.2 < 20) : l.length ≤ 4000 := by
  have h1 : (l.map fun x => x.1 * 20 + x.2).Nodup := by
    refine List.pairwise_map.mpr (hn.imp_of_mem fun {a b} ha hb hab z => hab ?_)
    have h2 := hl a ha
    have h3 := hl b hb
    exact Prod.ext (by omega) (by omega)
  have h2 := nodup_len h1 (L := 4000) fun g hg => by
    obtain ⟨x, hx, rfl⟩ := List.mem_map.mp hg
    have := hl x hx
    omega
  rw [List.length_map] at h2
  exact h2
theorem small_len {kvs : List (List Key × V)} (h : Small (kvs.map (·.1))) : kvs.length ≤ 4000 := by
  obtain ⟨l, e, h1, h2⟩ := h
  have := nodup_len4 h2 h1
  have h3 := congrArg List.length e
  rw [List.length_map, List.length_map] at h3
  omega
def fillKeys (c : Con) (ts : List Try) (p : Nat → Bool) (i : Nat) : List (Nat × Nat) := (List.range i).flatMap fun n => if p (tryAt ts n).1 = true then (List.range (szOf c ts n)).map fun t => (n, t) else []
theorem fillKeys_succ (c : Con) (ts : List Try) (p : Nat → Bool) (i : Nat) : fillKeys c ts p (i + 1) = fillKeys c ts p i ++ (if p (tryAt ts i).1 = true then (List.range (szOf c ts i)).map fun t => (i, t) else []) := by
  unfold fillKeys
  rw [List.range_succ, List.flatMap_append]
  simp
theorem mem_fillKeys {c : Con} {ts : List Try} {p : Nat → Bool} {i n t : Nat} : (n, t) ∈ fillKeys c ts p i ↔ n < i ∧ t < szOf c ts n ∧ p (tryAt ts n).1 = true := by
  unfold fillKeys
  rw [List.mem_flatMap]
  constructor
  · rintro ⟨m, hm, h⟩
    split at h
    · obtain ⟨u, hu, e⟩ := List.mem_map.mp h
      injection e with e1 e2
      subst e1 e2
      exact ⟨List.mem_range.mp hm, List.mem_range.mp hu, by assumption⟩
    · cases h
  · rintro ⟨h1, h2, h3⟩
    exact ⟨n, List.mem_range.mpr h1, by rw [if_pos h3]; exact List.mem_map.mpr ⟨t, List.mem_range.mpr h2, rfl⟩⟩
def fillK (c : Con) (ts : List Try) (p : Nat → Bool) (b : Bool) (kvs : List (List Key × V)) (i : Nat) : List (List Key × V) := setAllK kvs (fillKeys c ts p i) (.bl b)
def fillT (c : Con) (ts : List Try) (p : Nat → Bool) (b : Bool) (tb : Nat → Nat → Option Bool) (n t : Nat) : Option Bool := match tb n t with
  | some v => some v
  | none => if n < ts.length ∧ t < szOf c ts n ∧ p (tryAt ts n).1 = true then some b else none
theorem fill_tab {c : Con} {ts : List Try} {p : Nat → Bool} {b : Bool} {kvs : List (List Key × V)} {tb : Nat → Nat → Option Bool} (o : TabOk kvs tb) : TabOk (fillK c ts p b kvs ts.length) (fillT c ts p b tb) := ⟨fun n t => by
  unfold fillK
  have h := valV_setAll (fillKeys c ts p ts.length) (.bl b) (n, t) kvs
  rw [show ([.inl (n : Int), .inl (t : Int)] : List Key) = natK (n, t) from rfl, h, show natK (n, t) = ([.inl (n : Int), .inl (t : Int)] : List Key) from rfl, o.at']
  unfold fillT
  cases tb n t with
  | some v => rfl
  | none =>
    show (if (n, t) ∈ fillKeys c ts p ts.length then some (V.bl b) else none) = _
    by_cases hm : (n, t) ∈ fillKeys c ts p ts.length
    · rw [if_pos hm, if_pos (mem_fillKeys.mp hm)]; rfl
    · rw [if_neg hm, if_neg (fun z => hm (mem_fillKeys.mpr z))]; rfl⟩
theorem small_fill {c : Con} {ts : List Try} {p : Nat → Bool} {b : Bool} {kvs : List (List Key × V)} (oc : c.Ok) (ot : TriesOk c ts) {i : Nat} (hi : i ≤ ts.length) (h : Small (kvs.map (·.1))) : Small ((fillK c ts p b kvs i).map (·.1)) := by
  refine small_setAll (fun x hx => ?_) h
  obtain ⟨n, t⟩ := x
  obtain ⟨h1, h2, _⟩ := mem_fillKeys.mp hx
  have h3 := ot.len
  have h4 := Con.size_le20 oc (ot.at (show n < ts.length by omega)).task
  exact ⟨by show n < 200; omega, by show t < 20; have h2 : t < c.size (tryAt ts n).2.1 := h2; omega⟩
theorem small_ver {c : Con} {ts : List Try} {vs : List Ver} (oc : c.Ok) (ot : TriesOk c ts) (ov : VersOk c ts vs) : Small ((verT vs).map (·.1)) := by
  rw [verT_eq ov.once, List.map_map]
  refine ⟨vs.map fun v => (v.1, v.2.1), by rw [List.map_map]; rfl, fun x hx => ?_, ov.once⟩
  obtain ⟨v, hv, rfl⟩ := List.mem_map.mp hx
  obtain ⟨h1, h2⟩ := ov.ok v hv
  have h3 := ot.len
  have h4 := Con.size_le20 oc (ot.at h1).task
  have h2 : v.2.1 < c.size (tryAt ts v.1).2.1 := h2
  exact ⟨by show v.1 < 200; omega, by show v.2.1 < 20; omega⟩
theorem in_nat (a : Nat) (l : List Nat) : inD (D.int a) (l.map fun n : Nat => D.int n) = decide (a ∈ l) := by
  unfold inD inV
  rw [List.map_map, List.any_map]
  induction l with
  | nil => rfl
  | cons b l ih =>
    rw [List.any_cons, ih]
    have e : ((fun y => eqV y (D.int a).toV) ∘ (D.toV ∘ fun n : Nat => D.int n)) b = decide (a = b) := by
      show decide ((b : Int) = (a : Int)) = _
      exact dec_iff (by omega)
    rw [e]
    by_cases h : a = b
    · simp [h]
    · simp [h]
theorem flat_nats (l : List Nat) : (l.map fun n : Nat => D.int n).all D.flat = true := by
  rw [List.all_map]
  exact List.all_eq_true.mpr fun b _ => rfl

end

section
variable [Tbs] {P : Program} {w : World} {K : PySem.W.Frag} {mg : Str → Option Value} {base : Heap}
abbrev s_filled : Stmt := top 61
abbrev N_filled : List Str := ["contest", "tries", "table", "teams", "passed", "found", "number", "one", "trial"]
abbrev P_filled : List Str := ["contest", "tries", "table", "teams", "passed"]
theorem sc_filled : FnScope N_filled P_filled (defScope s_filled) := ⟨rfl, rfl, rfl, by decide +kernel, rfl, by decide +kernel, by decide +kernel⟩

def R_filled (ds : List D) (r : D) : Prop := ∃ (c : Con) (ts : List Try) (kvs : List (List Key × V)) (l : List Nat) (b : Bool), ds = [c.d, trsD ts, .tab kvs, .lst (l.map fun n : Nat => D.int n), .bl b] ∧ c.Ok ∧ TriesOk c ts ∧ Small (kvs.map (·.1)) ∧ r = .tab (fillK c ts (fun t => decide (t ∈ l)) b kvs ts.length)
abbrev sp_filled (K : PySem.W.Frag) : Sp := spP K R_filled
theorem setAllK_app (kvs : List (List Key × V)) (l m : List (Nat × Nat)) (v : V) : setAllK kvs (l ++ m) v = setAllK (setAllK kvs l v) m v := List.foldl_append
theorem ok_filled {f : Addr} {fd : FuncData} (F : Fun K "filled" "filled" s_filled f fd) (T : Tx K mg) (d_trials_of : Dk P w K mg base 1 "trials_of" P_trials_of (sp_trials_of K)) : FnOk P w K mg base CX0 2 f fd P_filled (sp_filled K) := by
  refine F.ok sc_filled (fun vs H Q E h => ?_) (fun cdv A outer s H vs Q E hr h => ?_)
  · obtain ⟨G, ds, r, e, ra, ⟨c, ts, kvs, l, b, rfl, oc, ot, hs, rfl⟩, q⟩ := h
    exact ra.len
  · obtain ⟨G, ds, r, e, ra, ⟨c, ts, kvs, l, b, rfl, oc, ot, hs, rfl⟩, q⟩ := h
    obtain ⟨v0, v1, v2, v3, v4, rfl, r0, r1, r2, r3, r4⟩ := ra.five
    refine ⟨_, (pss_cons (ps_set (i := 5) sc_filled.nd rfl (by first | exact Or.inl rfl | exact Or.inr rfl) (pe_callTy (call_dictC hr.units) (by rfl) T.n_dict (by decide +kernel) (pa_cons (pv 2) pa_nil)))
    (pss_cons (ps_for PassesOwn.never rfl (pi_enK K rfl (by rfl) T.n_enumerate (pa_cons (pv 1) pa_nil)) (pg_tup rfl (pgs_cons (pg_name (i := 6) sc_filled.nd rfl (by first | exact Or.inl rfl | exact Or.inr rfl)) (pgs_cons (pg_name (i := 7) sc_filled.nd rfl (by first | exact Or.inl rfl | exact Or.inr rfl)) pgs_nil))) (pss_one (ps_if (pt_cmpR (op_inK K rfl) (pe_ix (ix_seqK K rfl) (pv 7) pe_int (fun _ _ => rfl)) (pv 3) (by rfl)) (pss_one (ps_for PassesOwn.never rfl (pi_range1 (by rfl) T.n_range (pa_cons (pe_fn d_trials_of (hr.mono (by decide)) (by rfl) (pa_cons (pv 0) (pa_cons (pe_ix (ix_seqK K rfl) (pv 7) pe_int (fun _ _ => rfl)) pa_nil))) pa_nil)) (pg_name (i := 8) sc_filled.nd rfl (by first | exact Or.inl rfl | exact Or.inr rfl)) (pss_one (ps_expr (pe_dsetdT (hu_of hr) (pv 5) (pe_tup (pa_cons (pv 6) (pa_cons (pv 8) pa_nil))) (pv 4) ⟨rfl, rfl, rfl, rfl⟩))))) pss_nil)))
    (pss_one (ps_ret (pv 5))))), ?_⟩
    try dsimp only [cxOf, Cx.nox, Cx.wish]
    have hl := ot.len
    have htl : (ts.map trD).length = ts.length := List.length_map _
    refine q_asgFT e (ft_dictC (e_var rfl r2) hs) fun p G1 H1 s1 hp0 gp hx => ?_
    have hp0' := hp0
    have r0 := r0.ex s1.g
    have r1 := r1.ex s1.g
    have r3 := r3.ex s1.g
    refine q_for (K := K) (n := ts.length) (js := [6, 7]) (E := fun i => [.int i, trD (tryAt ts i)]) s1 (i_enL' htl (e_var rfl r1)) (fun i hi => by rw [nth_map (try_at hi)]; exact g_two)
      (fun i σ' G' H' => G' p = none ∧ H' p = some (.dT (fillK c ts (fun t => decide (t ∈ l)) b kvs i)) ∧ ∃ w6 w7 w8, σ' = [some v0, some v1, some v2, some v3, some v4, some (.ref p), w6, w7, w8])
      (fun G2 H2 s2 => ⟨(s2.keep gp hx).1, (s2.keep gp hx).2, _, _, _, rfl⟩) ?_ ?_
    · rintro Gw ew i hi σ' G' H' S' ew' ⟨g', x', w6, w7, w8, rfl⟩ G2 H2 us s2 ru
      obtain ⟨a, y, rfl, ra, ry⟩ := ru.two
      cases ra
      have ok := ot.at hi
      have hsz := Con.size_le20 oc ok.task
      obtain ⟨g2, x2⟩ := s2.keep g' x'
      have S2 := S'.trans s2
      have e2 : Ex G1 G2 := ew.trans (ew'.trans s2.g)
      have r0 := r0.ex e2
      have r3 := r3.ex e2
      have r4 : Rp K G2 v4 (.bl b) := r4.flat_any rfl
      have hsm := small_fill (b := b) (p := fun t => decide (t ∈ l)) oc ot (Nat.le_of_lt hi) hs
      have hsm' := small_fill (b := b) (p := fun t => decide (t ∈ l)) oc ot hi hs
      have hsucc : fillK c ts (fun t => decide (t ∈ l)) b kvs (i + 1) = setAllK (fillK c ts (fun t => decide (t ∈ l)) b kvs i) (if decide ((tryAt ts i).1 ∈ l) = true then (List.range (szOf c ts i)).map fun t => (i, t) else []) (.bl b) := by
        unfold fillK
        rw [fillKeys_succ, setAllK_app]
      rw [hsucc]
      generalize fillK c ts (fun t => decide (t ∈ l)) b kvs i = kv1 at x2 hsm
      refine s_when (b := decide ((tryAt ts i).1 ∈ l)) S2.i (b_test (K := K) (EvD.bl (e_in (d1 := .int (tryAt ts i).1) (d2 := .lst (l.map fun n : Nat => D.int n)) (e_ix (d1 := trD (tryAt ts i)) (e_var rfl ry) e_int rfl) (e_var rfl r3) rfl rfl (flat_nats l)) (in_nat _ l))) (fun hb G3 H3 s3 => ?_) (fun hb G3 H3 s3 => ?_)
      · rw [if_pos hb]
        have S3 := S2.trans s3
        obtain ⟨g3, x3⟩ := s3.keep g2 x2
        have r0 := r0.ex s3.g
        have ry := ry.ex s3.g
        have r4 : Rp K G3 v4 (.bl b) := r4.flat_any rfl
        refine s_for (K := K) (n := szOf c ts i) (js := [8]) (E := fun j => [.int j]) S3 (i_rng1' (e_call (a_cons (e_var rfl r0) (a_one (e_ix (d1 := trD (tryAt ts i)) (e_var rfl ry) e_int rfl))) ⟨c, (tryAt ts i).2.1, rfl, oc, ok.task, rfl⟩) (by show c.size _ ≤ _; omega)) (fun _ _ => g_name)
          (fun j σ' G' H' => G' p = none ∧ H' p = some (.dT (setAllK kv1 ((List.range j).map fun t => (i, t)) (.bl b))) ∧ ∃ w8, σ' = [some v0, some v1, some v2, some v3, some v4, some (.ref p), some (.int i), some y, w8])
          (fun G4 H4 s4 => ⟨(s4.keep g3 x3).1, (s4.keep g3 x3).2, _, rfl⟩) ?_ ?_
        · rintro Gv ev j hj σ' G' H' S' ev' ⟨g', x', w8, rfl⟩ G4 H4 us s4 ru
          obtain ⟨z, rfl, rz⟩ := ru.one
          cases rz
          obtain ⟨g4, x4⟩ := s4.keep g' x'
          have S4 := S'.trans s4
          have hsj : Small ((setAllK kv1 ((List.range j).map fun t => (i, t)) (.bl b)).map (·.1)) := by
            refine small_setAll (fun x hx => ?_) hsm
            obtain ⟨t, ht, rfl⟩ := List.mem_map.mp hx
            have := List.mem_range.mp ht
            have hj : j < c.size (tryAt ts i).2.1 := hj
            exact ⟨by show i < 200; omega, by show t < 20; omega⟩
          have hln := small_len hsj
          refine s_dsetd (K := K) (ks := natK (i, j)) (d := .bl b) S4 hp0 g4 x4 rfl (e_tup2 (e_var rfl (.int _)) (e_var rfl (.int _))) rfl (e_var rfl (r4.flat_any rfl)) rfl (by omega) fun G5 H5 S5 e5 g5 x5 => ?_
          refine ⟨G5, S5, ev'.trans (s4.g.trans e5), g5, ?_, _, rfl⟩
          rw [x5, List.range_succ, List.map_append, setAllK_app]
          rfl
        · rintro σ' G' H' S' ev' ⟨g', x', w8, rfl⟩
          exact ⟨G', S', ew'.trans (s2.g.trans (s3.g.trans ev')), g', x', _, _, _, rfl⟩
      · rw [if_neg (by rw [hb]; exact Bool.false_ne_true)]
        obtain ⟨g3, x3⟩ := s3.keep g2 x2
        exact ⟨G3, S2.trans s3, ew'.trans (s2.g.trans s3.g), g3, x3, _, _, _, rfl⟩
    · rintro σ' G' H' S' ew ⟨g', x', w6, w7, w8, rfl⟩
      have S3 := S'.freeze hp0 g' x'
      exact s_ret (K := K) S3.i (e_var rfl (.tab upd_same)) fun v G4 H4 s4 rv => q v G4 H4 (S3.trans s4) rv

end

section
variable [Tbs] {P : Program} {w : World} {K : PySem.W.Frag} {mg : Str → Option Value} {base : Heap}
abbrev s_place_in : Stmt := top 68
abbrev N_place_in : List Str := ["contest", "tries", "table", "team", "row"]
abbrev P_place_in : List Str := ["contest", "tries", "table", "team"]
theorem sc_place_in : FnScope N_place_in P_place_in (defScope s_place_in) := ⟨rfl, rfl, rfl, by decide +kernel, rfl, by decide +kernel, by decide +kernel⟩

/-- the place of a team by a table -/
def placeT (c : Con) (ts : List Try) (tb : Nat → Nat → Option Bool) (team : Nat) : Nat := placeOf (scoresL c ts tb (wholeU c)) team
theorem placed_one {ss : List (List Int)} {team : Nat} (h : team < ss.length) : ((placedL ss).filter fun r => decide (r.2.1 = team)).map (fun r => D.int r.1) = [D.int (placeOf ss team)] := by
  have h1 : ((placedL ss).filter fun r => decide (r.2.1 = team)).Perm ((rowsOf ss ss.length).filter fun r => decide (r.2.1 = team)) := (List.mergeSort_perm _ _).filter _
  have h2 : (rowsOf ss ss.length).filter (fun r => decide (r.2.1 = team)) = [(placeOf ss team, team, scAt ss team)] := by
    unfold rowsOf
    rw [List.filter_map]
    have e : ((fun r : Row => decide (r.2.1 = team)) ∘ fun t => (placeOf ss t, t, scAt ss t)) = fun t => decide (t = team) := rfl
    rw [e]
    have h3 : ∀ n, team < n → (List.range n).filter (fun t => decide (t = team)) = [team] := by
      intro n
      induction n with
      | zero => intro h; omega
      | succ n ih =>
        intro h
        rw [List.range_succ, List.filter_append]
        by_cases hn : team = n
        · subst hn
          have : (List.range team).filter (fun t => decide (t = team)) = [] := List.filter_eq_nil_iff.mpr fun t ht => by
            have := List.mem_range.mp ht
            simp; omega
          rw [this]
          simp
        · rw [ih (by omega)]
          have : ([n].filter fun t => decide (t = team)) = [] := by simp; omega
          rw [this, List.append_nil]
    rw [h3 _ h]
    rfl
  rw [h2] at h1
  rw [List.perm_singleton.mp h1]
  rfl
def R_place_in (ds : List D) (r : D) : Prop := ∃ (c : Con) (ts : List Try) (kvs : List (List Key × V)) (tb : Nat → Nat → Option Bool) (team : Nat), ds = [c.d, trsD ts, .tab kvs, .int team] ∧ c.Ok ∧ TriesOk c ts ∧ TabOk kvs tb ∧ team < c.teams ∧ r = .int (placeT c ts tb team)
abbrev sp_place_in (K : PySem.W.Frag) : Sp := spPm K R_place_in
theorem rows_at3 (r : Row) : D.at (rowD r) 0 = some (.int r.1) := rfl
theorem ok_place_in {f : Addr} {fd : FuncData} (F : Fun K "place_in" "place_in" s_place_in f fd) (T : Tx K mg) (d_all_placed : Dk P w K mg base 6 "all_placed" P_all_placed (sp_all_placed K)) : FnOk P w K mg base CX0 7 f fd P_place_in (sp_place_in K) := by
  refine F.ok sc_place_in (fun vs H Q E h => ?_) (fun cdv A outer s H vs Q E hr h => ?_)
  · obtain ⟨G, ds, r, e, mk, ra, ⟨c, ts, kvs, tb, team, rfl, oc, ot, otb, hteam, rfl⟩, q⟩ := h
    exact ra.len
  · obtain ⟨G, ds, r, e, mk, ra, ⟨c, ts, kvs, tb, team, rfl, oc, ot, otb, hteam, rfl⟩, q⟩ := h
    obtain ⟨v0, v1, v2, v3, rfl, r0, r1, r2, r3⟩ := ra.four
    refine ⟨_, (pss_one (ps_ret (pe_ix (ix_seqK K rfl) (pe_lc (own := [("row", 4)]) (g := gName 4) (tt := _) rfl sc_place_in.nd (pi_seqK K rfl (pe_fn d_all_placed (hr.mono (by decide)) (by rfl) (pa_cons (pv 0) (pa_cons (pv 1) (pa_cons (pv 2) pa_nil))))) (blkOk_by (own := [("row", 4)]) (N := N_place_in) (sc := defScope s_place_in) (by decide +kernel)) (fun _ _ _ _ _ => (pg_name (i := 4) sc_place_in.nd rfl (by first | exact Or.inl rfl | exact Or.inr rfl))) (fun _ _ _ _ _ => (pts_one (pt_cmpR (op_eqK K rfl hr.units) (pe_ix (ix_seqK K rfl) (pv 4) pe_int (fun _ _ => rfl)) (pv 3) (nomark _)))) (fun _ _ _ _ _ => (pe_ix (ix_seqK K rfl) (pv 4) pe_int (fun _ _ => rfl)))) pe_int (fun _ _ => rfl)))), ?_⟩
    try dsimp only [cxOf, Cx.nox, Cx.wish]
    have hl : (standL c ts tb).length = c.teams := by
      unfold standL placedL rowsOf
      rw [List.length_mergeSort, List.length_map, List.length_range, scoresL_len]
    have hteams := oc.teams
    have h1 := placed_one (ss := scoresL c ts tb (wholeU c)) (team := team) (by rw [scoresL_len]; exact hteam)
    refine s_ret (K := K) e (d := .int (placeT c ts tb team)) (e_ix (d1 := .lst [.int (placeT c ts tb team)]) (EvD.eq (EvF.toD (f_lcm (xs := standL c ts tb) (Y := nth ((standL c ts tb).map rowD)) (js := [4]) (fun _ r => [rowD r]) (fun r => decide (r.2.1 = team)) (fun r => .int r.1)
      (i_seqL' (List.length_map _) (EvF.toD (f_callm (K := K) mk (a_cons (e_var rfl r0) (a_cons (e_var rfl r1) (a_one (e_var rfl r2)))) ⟨c, ts, kvs, tb, rfl, oc, ot, otb, rfl⟩))) (fun i x hx => by rw [nth_map hx]; exact g_name) (by omega) (fun _ _ _ => rfl) (fun us h => match us, h with | [_], _ => rfl) (fun i x hx G6 e6 us ru => ?_) (fun i x hx _ G6 e6 us ru => ?_))) (congrArg D.lst h1)) e_int rfl) q
    · obtain ⟨y, rfl, ry⟩ := ru.one
      exact b_test (K := K) (EvD.bl (e_eq (d1 := .int x.2.1) (d2 := .int team) (e_ix (d1 := rowD x) (e_var rfl ry) e_int rfl) (e_var rfl (r3.flat_any rfl)) rfl) (dec_iff ⟨fun z => by omega, fun z => by omega⟩))
    · obtain ⟨y, rfl, ry⟩ := ru.one
      exact e_ix (d1 := rowD x) (e_var rfl ry) e_int rfl
abbrev s_extremes : Stmt := top 69
abbrev N_extremes : List Str := ["contest", "tries", "table", "found", "teams", "team", "others", "best", "worst", "one"]
abbrev P_extremes : List Str := ["contest", "tries", "table"]
theorem sc_extremes : FnScope N_extremes P_extremes (defScope s_extremes) := ⟨rfl, rfl, rfl, by decide +kernel, rfl, by decide +kernel, by decide +kernel⟩

/-- the others' trials fill with not b, the team's own with b -/
def farT (c : Con) (ts : List Try) (b : Bool) (tb : Nat → Nat → Option Bool) (team : Nat) : Nat → Nat → Option Bool := fillT c ts (fun t => decide (t ∈ (List.range c.teams).filter fun o => !decide (o = team))) (!b) (fillT c ts (fun t => decide (t ∈ [team])) b tb)
def farK (c : Con) (ts : List Try) (b : Bool) (kvs : List (List Key × V)) (team : Nat) : List (List Key × V) := fillK c ts (fun t => decide (t ∈ (List.range c.teams).filter fun o => !decide (o = team))) (!b) (fillK c ts (fun t => decide (t ∈ [team])) b kvs ts.length) ts.length
def extL (c : Con) (ts : List Try) (tb : Nat → Nat → Option Bool) : List (Nat × Nat) := (List.range c.teams).map fun t => (placeT c ts (farT c ts true tb t) t, placeT c ts (farT c ts false tb t) t)
def R_extremes (ds : List D) (r : List D) : Prop := ∃ (c : Con) (ts : List Try) (kvs : List (List Key × V)) (tb : Nat → Nat → Option Bool), ds = [c.d, trsD ts, .tab kvs] ∧ c.Ok ∧ TriesOk c ts ∧ TabOk kvs tb ∧ Small (kvs.map (·.1)) ∧ r = (extL c ts tb).map natP
abbrev sp_extremes (K : PySem.W.Frag) : Sp := spFm K R_extremes
theorem ok_extremes {f : Addr} {fd : FuncData} (F : Fun K "extremes" "extremes" s_extremes f fd) (T : Tx K mg) (d_filled : Dk P w K mg base 2 "filled" P_filled (sp_filled K)) (d_place_in : Dk P w K mg base 7 "place_in" P_place_in (sp_place_in K)) : FnOk P w K mg base CX0 8 f fd P_extremes (sp_extremes K) := by
  refine F.ok sc_extremes (fun vs H Q E h => ?_) (fun cdv A outer s H vs Q E hr h => ?_)
  · obtain ⟨G, ds, r, e, mk, ra, ⟨c, ts, kvs, tb, rfl, oc, ot, otb, hsm, rfl⟩, q⟩ := h
    exact ra.len
  · obtain ⟨G, ds, r, e, mk, ra, ⟨c, ts, kvs, tb, rfl, oc, ot, otb, hsm, rfl⟩, q⟩ := h
    obtain ⟨v0, v1, v2, rfl, r0, r1, r2⟩ := ra.three
    refine ⟨_, (pss_cons (ps_set (i := 3) sc_extremes.nd rfl (by first | exact Or.inl rfl | exact Or.inr rfl) (pe_lst pa_nil))
    (pss_cons (ps_set (i := 4) sc_extremes.nd rfl (by first | exact Or.inl rfl | exact Or.inr rfl) (pe_listRg rfl (by rfl) T.n_list (prg_1 (by rfl) T.n_range (pe_ix (ix_seqK K rfl) (pv 0) pe_int (fun _ _ => rfl)))))
    (pss_cons (ps_for PassesOwn.never rfl (pi_seqK K rfl (pv 4)) (pg_name (i := 5) sc_extremes.nd rfl (by first | exact Or.inl rfl | exact Or.inr rfl)) (pss_cons (ps_setLc (i := 6) (own := [("one", 9)]) (g := gName 9) (tt := _) rfl sc_extremes.nd rfl rfl (sw_true rfl rfl rfl (by decide +kernel)) (pi_seqK K rfl (pv 4)) (blkOk_by (own := [("one", 9)]) (N := N_extremes) (sc := defScope s_extremes) (by decide +kernel)) (fun _ _ _ _ _ => (pg_name (i := 9) sc_extremes.nd rfl (by first | exact Or.inl rfl | exact Or.inr rfl))) (fun _ _ _ _ _ => (pts_one (pt_cmpR (op_neK K rfl hr.units) (pv 9) (pv 5) (nomark _)))) (fun _ _ _ _ _ => (pv 9)))
    (pss_cons (ps_set (i := 7) sc_extremes.nd rfl (by first | exact Or.inl rfl | exact Or.inr rfl) (pe_fn d_filled (hr.mono (by decide)) (by rfl) (pa_cons (pv 0) (pa_cons (pv 1) (pa_cons (pe_fn d_filled (hr.mono (by decide)) (by rfl) (pa_cons (pv 0) (pa_cons (pv 1) (pa_cons (pv 2) (pa_cons (pe_lst (pa_cons (pv 5) pa_nil)) (pa_cons pe_bl pa_nil)))))) (pa_cons (pv 6) (pa_cons pe_bl pa_nil)))))))
    (pss_cons (ps_set (i := 8) sc_extremes.nd rfl (by first | exact Or.inl rfl | exact Or.inr rfl) (pe_fn d_filled (hr.mono (by decide)) (by rfl) (pa_cons (pv 0) (pa_cons (pv 1) (pa_cons (pe_fn d_filled (hr.mono (by decide)) (by rfl) (pa_cons (pv 0) (pa_cons (pv 1) (pa_cons (pv 2) (pa_cons (pe_lst (pa_cons (pv 5) pa_nil)) (pa_cons pe_bl pa_nil)))))) (pa_cons (pv 6) (pa_cons pe_bl pa_nil)))))))
    (pss_one (ps_expr (pe_bm PySem.F.plainAttrs_list PySem.F.slot_list_append PySem.F.type_list_append mt_append (pv 3) (pa_cons (pe_tup (pa_cons (pe_fn d_place_in (hr.mono (by decide)) (by rfl) (pa_cons (pv 0) (pa_cons (pv 1) (pa_cons (pv 7) (pa_cons (pv 5) pa_nil))))) (pa_cons (pe_fn d_place_in (hr.mono (by decide)) (by rfl) (pa_cons (pv 0) (pa_cons (pv 1) (pa_cons (pv 8) (pa_cons (pv 5) pa_nil))))) pa_nil))) pa_nil))))))))
    (pss_one (ps_ret (pv 3)))))), ?_⟩
    try dsimp only [cxOf, Cx.nox, Cx.wish]
    have hteams := oc.teams
    refine q_newL e fun p H1 hp gp s1 hx => ?_
    have r0 := r0.ex s1.g
    have r1 := r1.ex s1.g
    have r2 := r2.ex s1.g
    refine q_asg (K := K) s1.i (d := .lst ((List.range c.teams).map fun k : Nat => D.int k)) (EvF.toD (f_listRg (e_ix (d1 := c.d) (e_var rfl r0) e_int rfl) (by omega))) fun v4 G2 H2 s2 r4 => ?_
    have S2 := s1.trans s2
    obtain ⟨g2, x2⟩ := s2.keep gp hx
    have r0 := r0.ex s2.g
    have r1 := r1.ex s2.g
    have r2 := r2.ex s2.g
    have hrl : ((List.range c.teams).map fun k : Nat => D.int k).length = c.teams := by rw [List.length_map, List.length_range]
    refine q_for (K := K) (n := c.teams) (js := [5]) (E := fun i => [.int i]) S2 (i_seqL' hrl (e_var rfl r4)) (fun i hi => by rw [nth_map (List.getElem?_range hi)]; exact g_name)
      (fun i σ' G' H' => G' p = none ∧ (∃ xs, H' p = some (.lst xs) ∧ RpA K G' xs (((extL c ts tb).take i).map natP)) ∧ ∃ w5 w6 w7 w8 w9, σ' = [some v0, some v1, some v2, some (.ref p), some v4, w5, w6, w7, w8, w9])
      (fun G3 H3 s3 => ⟨(s3.keep g2 x2).1, ⟨_, (s3.keep g2 x2).2, .nil⟩, _, _, _, _, _, rfl⟩) ?_ ?_
    · rintro Gw ew i hi σ' G' H' S' ew' ⟨g', ⟨xs, x', rx⟩, w5, w6, w7, w8, w9, rfl⟩ G3 H3 us s3 ru
      obtain ⟨a, rfl, ra⟩ := ru.one
      cases ra
      have S3 := S'.trans s3
      obtain ⟨g3, x3⟩ := s3.keep g' x'
      have e3 : Ex G2 G3 := ew.trans (ew'.trans s3.g)
      have r0 := r0.ex e3
      have r1 := r1.ex e3
      have r2 := r2.ex e3
      have r4 := r4.ex e3
      have hei : (extL c ts tb)[i]? = some (placeT c ts (farT c ts true tb i) i, placeT c ts (farT c ts false tb i) i) := by
        unfold extL
        rw [List.getElem?_map, List.getElem?_range hi]
        rfl
      have hxl : xs.length ≤ 12 := by
        have : (extL c ts tb).length = c.teams := by unfold extL; rw [List.length_map, List.length_range]
        rw [rx.len, List.length_map, List.length_take]
        omega
      refine q_asg (K := K) S3.i (d := .lst (((List.range c.teams).filter fun o => !decide (o = i)).map fun k : Nat => D.int k)) (EvF.toD (f_lcm (xs := List.range c.teams) (Y := nth ((List.range c.teams).map fun k : Nat => D.int k)) (js := [9]) (fun _ n => [.int n]) (fun o => !decide (o = i)) (fun k : Nat => D.int k)
        (i_seqL' (by rw [List.length_map]) (e_var rfl r4)) (fun j x hx => by rw [nth_map hx]; exact g_name) (by rw [List.length_range]; omega) (fun _ _ _ => rfl) (fun us h => match us, h with | [_], _ => rfl) (fun j x hx G6 e6 us ru => ?_) (fun j x hx _ G6 e6 us ru => ?_))) fun v6 G4 H4 s4 r6 => ?_
      · obtain ⟨y, rfl, ry⟩ := ru.one
        exact b_test (K := K) (EvD.bl (e_ne (d1 := .int x) (d2 := .int i) (e_var rfl ry) (e_var rfl (.int _)) rfl) (congrArg not (dec_iff (by omega))))
      · obtain ⟨y, rfl, ry⟩ := ru.one
        exact e_var rfl ry
      have S4 := S3.trans s4
      have r0 := r0.ex s4.g
      have r1 := r1.ex s4.g
      have r2 := r2.ex s4.g
      have hfar : ∀ b (G5 : Hp), Ex G4 G5 → ∀ (σ : L2.St), σ[0]? = some (some v0) → σ[1]? = some (some v1) → σ[2]? = some (some v2) → σ[5]? = some (some (.int (i : Int))) → σ[6]? = some (some v6) → EvD K (tCall (sp_filled K) [] E0 (tCons (tVar 0) (tCons (tVar 1) (tCons (tCall (sp_filled K) [] E0 (tCons (tVar 0) (tCons (tVar 1) (tCons (tVar 2) (tCons (tLst (tCons (tVar 5) tNil)) (tCons (tC (.bl b)) tNil)))))) (tCons (tVar 6) (tCons (tC (.bl (!b))) tNil)))))) σ G5 (.tab (farK c ts b kvs i)) := fun b G5 e5 σ h0 h1 h2 h5 h6 =>
        e_call (a_cons (e_var h0 (r0.ex e5)) (a_cons (e_var h1 (r1.ex e5)) (a_cons (e_call (a_cons (e_var h0 (r0.ex e5)) (a_cons (e_var h1 (r1.ex e5)) (a_cons (e_var h2 (r2.ex e5)) (a_cons (EvF.toD (f_lst (a_one (e_var h5 (.int _))) (by show 1 ≤ 100000; decide))) (a_one e_bl))))) ⟨c, ts, kvs, [i], b, rfl, oc, ot, hsm, rfl⟩) (a_cons (e_var h6 (r6.ex e5)) (a_one e_bl))))) ⟨c, ts, _, (List.range c.teams).filter fun o => !decide (o = i), !b, rfl, oc, ot, small_fill oc ot (Nat.le_refl _) hsm, rfl⟩
      refine q_asg (K := K) S4.i (hfar true G4 (Ex.refl _) _ rfl rfl rfl rfl rfl) fun v7 G5 H5 s5 r7 => ?_
      have S5 := S4.trans s5
      refine q_asg (K := K) S5.i (hfar false G5 s5.g _ rfl rfl rfl rfl rfl) fun v8 G6 H6 s6 r8 => ?_
      have S6 := S5.trans s6
      have r0 := r0.ex (s5.g.trans s6.g)
      have r1 := r1.ex (s5.g.trans s6.g)
      have r7 := r7.ex s6.g
      obtain ⟨g6, x6⟩ := (s4.trans (s5.trans s6)).keep g3 x3
      have mk6 := mk.ex S6.g
      have tk : ∀ b, TabOk (farK c ts b kvs i) (farT c ts b tb i) := fun b => fill_tab (fill_tab otb)
      refine s_app (K := K) (d := natP (placeT c ts (farT c ts true tb i) i, placeT c ts (farT c ts false tb i) i)) S6.i g6 x6 rfl (e_tup2 (e_callm (K := K) mk6 (a_cons (e_var rfl r0) (a_cons (e_var rfl r1) (a_cons (e_var rfl r7) (a_one (e_var rfl (.int _)))))) ⟨c, ts, _, _, i, rfl, oc, ot, tk true, hi, rfl⟩) (e_callm (K := K) mk6 (a_cons (e_var rfl r0) (a_cons (e_var rfl r1) (a_cons (e_var rfl r8) (a_one (e_var rfl (.int _)))))) ⟨c, ts, _, _, i, rfl, oc, ot, tk false, hi, rfl⟩)) (by omega) fun v G7 H7 s7 g7 rv => ?_
      have e37 : Ex G3 G7 := s4.g.trans (s5.g.trans (s6.g.trans s7.g))
      refine ⟨G7, (S6.trans s7).mut hp g7, ew'.trans (s3.g.trans e37), g7, ⟨_, upd_same, ?_⟩, _, _, _, _, _, rfl⟩
      rw [take_snoc hei, List.map_append]
      exact (rx.ex (s3.g.trans e37)).snoc rv
    · rintro σ' G' H' S' ew ⟨g', ⟨xs, x', rx⟩, w5, w6, w7, w8, w9, rfl⟩
      have hl : (extL c ts tb).length = c.teams := by unfold extL; rw [List.length_map, List.length_range]
      rw [← hl, List.take_length] at rx
      exact ⟨_, rfl, q p xs G' H' S' hp g' x' rx⟩
abbrev s_could : Stmt := top 70
abbrev N_could : List Str := ["contest", "tries", "verdicts"]
abbrev P_could : List Str := ["contest", "tries", "verdicts"]
theorem sc_could : FnScope N_could P_could (defScope s_could) := ⟨rfl, rfl, rfl, by decide +kernel, rfl, by decide +kernel, by decide +kernel⟩

def R_could (ds : List D) (r : List D) : Prop := ∃ (c : Con) (ts : List Try) (vs : List Ver), ds = [c.d, trsD ts, vrsD vs] ∧ c.Ok ∧ TriesOk c ts ∧ VersOk c ts vs ∧ vs.length ≤ 100000 ∧ r = (extL c ts (tbOf vs)).map natP
abbrev sp_could (K : PySem.W.Frag) : Sp := spFm K R_could
theorem ok_could {f : Addr} {fd : FuncData} (F : Fun K "could" "could" s_could f fd) (T : Tx K mg) (d_extremes : Dk P w K mg base 8 "extremes" P_extremes (sp_extremes K)) (d_need_all : Dk P w K mg base 5 "need_all" P_need_all (sp_need_all K)) (d_table_of : Dk P w K mg base 1 "table_of" P_table_of (sp_table_of K)) : FnOk P w K mg base CX0 9 f fd P_could (sp_could K) := by
  refine F.ok sc_could (fun vs H Q E h => ?_) (fun cdv A outer s H vs Q E hr h => ?_)
  · obtain ⟨G, ds, r, e, mk, ra, ⟨c, ts, vs, rfl, oc, ot, ov, hlen, rfl⟩, q⟩ := h
    exact ra.len
  · obtain ⟨G, ds, r, e, mk, ra, ⟨c, ts, vs, rfl, oc, ot, ov, hlen, rfl⟩, q⟩ := h
    obtain ⟨v0, v1, v2, rfl, r0, r1, r2⟩ := ra.three
    refine ⟨_, (pss_cons (ps_expr (pe_fn d_need_all (hr.mono (by decide)) (by rfl) (pa_cons (pv 0) (pa_cons (pv 1) (pa_cons (pv 2) pa_nil)))))
    (pss_one (ps_ret (pe_fn d_extremes (hr.mono (by decide)) (by rfl) (pa_cons (pv 0) (pa_cons (pv 1) (pa_cons (pe_fn d_table_of (hr.mono (by decide)) (by rfl) (pa_cons (pv 2) pa_nil)) pa_nil))))))), ?_⟩
    try dsimp only [cxOf, Cx.nox, Cx.wish]
    refine q_drop e (d := .non) (e_call (a_cons (by walk_at "ev") (a_cons (by walk_at "ev") (a_one (by walk_at "ev")))) ⟨c, ts, vs, rfl, oc, ot, ov, hlen, rfl⟩) fun G1 H1 s1 => ?_
    have r0 := r0.ex s1.g
    have r1 := r1.ex s1.g
    have r2 := r2.ex s1.g
    exact s_retF s1.i (f_callm (K := K) (mk.ex s1.g) (a_cons (by walk_at "ev") (a_cons (by walk_at "ev") (a_one (e_call (a_one (by walk_at "ev")) ⟨vs, rfl, hlen, rfl⟩)))) ⟨c, ts, _, _, rfl, oc, ot, tab_ver ov.once, small_ver oc ot ov, rfl⟩) fun p xs G2 H2 s2 h1 h2 h3 r => q p xs G2 H2 (s1.trans s2) (s1.pre h1) h2 h3 r

end

section
variable [Tbs] {P : Program} {w : World} {K : PySem.W.Frag} {mg : Str → Option Value} {base : Heap}
/-! ### more that passed, less that failed: no worse score -/
theorem sta_passed {bs : List (Option Bool)} : staOf bs = .passed ↔ ∀ b ∈ bs, b = some true := by
  unfold staOf
  constructor
  · intro h b hb
    split at h
    · cases h
    · split at h
      · cases h
      · rename_i h1 h2
        cases b with
        | none => exact absurd hb h2
        | some x => cases x with
          | true => rfl
          | false => exact absurd hb h1
  · intro h
    rw [if_neg (fun z : some false ∈ bs => by cases h _ z), if_neg (fun z : none ∈ bs => by cases h _ z)]
theorem sta_failed {bs : List (Option Bool)} : staOf bs = .failed ↔ some false ∈ bs := by
  unfold staOf
  by_cases h : some false ∈ bs
  · rw [if_pos h]; exact ⟨fun _ => h, fun _ => rfl⟩
  · rw [if_neg h]
    refine ⟨fun z => ?_, fun z => absurd z h⟩
    split at z <;> cases z
theorem gSt_passed {gs : List (Nat × Nat)} {f : Nat → Option Bool} {g : Nat} : gSt gs f g = .passed ↔ ∀ j, j < (grp gs g).1 → f (pre gs g + j) = some true := by
  unfold gSt
  rw [sta_passed]
  constructor
  · intro h j hj
    exact h _ (List.mem_map.mpr ⟨j, List.mem_range.mpr hj, rfl⟩)
  · intro h b hb
    obtain ⟨j, hj, rfl⟩ := List.mem_map.mp hb
    exact h j (List.mem_range.mp hj)
theorem gSt_failed {gs : List (Nat × Nat)} {f : Nat → Option Bool} {g : Nat} : gSt gs f g = .failed ↔ ∃ j, j < (grp gs g).1 ∧ f (pre gs g + j) = some false := by
  unfold gSt
  rw [sta_failed, List.mem_map]
  constructor
  · rintro ⟨j, hj, e⟩
    exact ⟨j, List.mem_range.mp hj, e⟩
  · rintro ⟨j, hj, e⟩
    exact ⟨j, List.mem_range.mpr hj, e⟩
theorem pos_lt {gs : List (Nat × Nat)} {g j : Nat} (hg : g < gs.length) (hj : j < (grp gs g).1) : pre gs g + j < sizeG gs := by
  have h1 := pre_succ hg
  have h2 := pre_mono (gs := gs) (a := g + 1) (b := gs.length) (by omega) (Nat.le_refl _)
  rw [pre_full] at h2
  omega
theorem tSt_passed {c : Con} {ts : List Try} {tb : Nat → Nat → Option Bool} {n : Nat} : tSt c ts tb n = .passed ↔ ∀ g, g < (gsOf c ts n).length → gSt (gsOf c ts n) (tb n) g = .passed := by
  have h := try_passed (gSts (gsOf c ts n) (tb n))
  have h : tSt c ts tb n = .passed ↔ (gSts (gsOf c ts n) (tb n)).all (fun s => decide (s = .passed)) = true := by
    unfold tSt
    rw [← h, decide_eq_true_eq]
  rw [h, List.all_eq_true]
  constructor
  · intro h g hg
    exact of_decide_eq_true (h _ (List.mem_of_getElem? (gSts_at hg)))
  · intro h s hs
    obtain ⟨g, hg, rfl⟩ := List.mem_map.mp hs
    exact decide_eq_true (h g (List.mem_range.mp hg))
theorem tSt_failed {c : Con} {ts : List Try} {tb : Nat → Nat → Option Bool} {n : Nat} : tSt c ts tb n = .failed ↔ ∃ g, g < (gsOf c ts n).length ∧ gSt (gsOf c ts n) (tb n) g = .failed := by
  unfold tSt
  rw [try_failed]
  unfold gSts
  rw [List.mem_map]
  constructor
  · rintro ⟨g, hg, e⟩
    exact ⟨g, List.mem_range.mp hg, e⟩
  · rintro ⟨g, hg, e⟩
    exact ⟨g, List.mem_range.mpr hg, e⟩
/-- a team's tries stand no worse by tb' than by tb -/
structure LeT (c : Con) (ts : List Try) (tb tb' : Nat → Nat → Option Bool) (a : Nat) : Prop where
  up : ∀ n, n < ts.length → (tryAt ts n).1 = a → ∀ t, t < szOf c ts n → tb n t = some true → tb' n t = some true
  dn : ∀ n, n < ts.length → (tryAt ts n).1 = a → ∀ t, t < szOf c ts n → tb' n t = some false → tb n t = some false
section
variable {c : Con} {ts : List Try} {tb tb' : Nat → Nat → Option Bool} {a : Nat}
theorem LeT.grp (h : LeT c ts tb tb' a) {n : Nat} (hn : n < ts.length) (ha : (tryAt ts n).1 = a) {g : Nat} (hg : g < (gsOf c ts n).length) (hp : gSt (gsOf c ts n) (tb n) g = .passed) : gSt (gsOf c ts n) (tb' n) g = .passed :=
  gSt_passed.mpr fun j hj => h.up n hn ha _ (pos_lt hg hj) (gSt_passed.mp hp j hj)
theorem LeT.pass (h : LeT c ts tb tb' a) {n : Nat} (hn : n < ts.length) (ha : (tryAt ts n).1 = a) (hp : tSt c ts tb n = .passed) : tSt c ts tb' n = .passed :=
  tSt_passed.mpr fun g hg => h.grp hn ha hg (tSt_passed.mp hp g hg)
theorem LeT.fail (h : LeT c ts tb tb' a) {n : Nat} (hn : n < ts.length) (ha : (tryAt ts n).1 = a) (hp : tSt c ts tb' n = .failed) : tSt c ts tb n = .failed := by
  obtain ⟨g, hg, e⟩ := tSt_failed.mp hp
  obtain ⟨j, hj, e2⟩ := gSt_failed.mp e
  exact tSt_failed.mpr ⟨g, hg, gSt_failed.mpr ⟨j, hj, h.dn n hn ha _ (pos_lt hg hj) e2⟩⟩
/-! #### points -/
theorem sum_filter_le {α : Type} {l : List α} {p q : α → Bool} {h : α → Nat} (hpq : ∀ x ∈ l, p x = true → q x = true) : ((l.filter p).map h).sum ≤ ((l.filter q).map h).sum := by
  induction l with
  | nil => exact Nat.le_refl _
  | cons a l ih =>
    have ih := ih fun x hx => hpq x (List.mem_cons_of_mem _ hx)
    rw [List.filter_cons, List.filter_cons]
    by_cases hp : p a = true
    · rw [if_pos hp, if_pos (hpq a List.mem_cons_self hp), List.map_cons, List.map_cons, List.sum_cons, List.sum_cons]
      omega
    · rw [if_neg hp]
      by_cases hq : q a = true
      · rw [if_pos hq, List.map_cons, List.sum_cons]; omega
      · rw [if_neg hq]; exact ih
theorem worth_le {t : Try} {p q : Nat} (h : p ≤ q) : worth c t p ≤ worth c t q := by
  unfold worth
  split <;> omega
theorem foldl_le {α : Type} {l : List α} {f f' : Nat → α → Nat} (h : ∀ x ∈ l, ∀ b b', b ≤ b' → f b x ≤ f' b' x) : ∀ b b', b ≤ b' → l.foldl f b ≤ l.foldl f' b' := by
  induction l with
  | nil => exact fun b b' h => h
  | cons a l ih => exact fun b b' hb => ih (fun x hx => h x (List.mem_cons_of_mem _ hx)) _ _ (h a List.mem_cons_self b b' hb)
theorem sum_map_le {α : Type} {l : List α} {f f' : α → Nat} (h : ∀ x ∈ l, f x ≤ f' x) : (l.map f).sum ≤ (l.map f').sum := by
  induction l with
  | nil => exact Nat.le_refl _
  | cons a l ih =>
    rw [List.map_cons, List.map_cons, List.sum_cons, List.sum_cons]
    have := ih fun x hx => h x (List.mem_cons_of_mem _ hx)
    have := h a List.mem_cons_self
    omega
theorem points_le (h : LeT c ts tb tb' a) {k : Nat} {ns : List Nat} (hns : ∀ n ∈ ns, n < ts.length ∧ (tryAt ts n).1 = a ∧ (tryAt ts n).2.1 = k) : pointsAt c ts tb k ns ≤ pointsAt c ts tb' k ns := by
  have hg : ∀ n ∈ ns, gsOf c ts n = c.groups k := fun n hn => by rw [← (hns n hn).2.2]
  unfold pointsAt
  split
  · unfold bestU
    refine foldl_le (fun n hn b b' hb => ?_) 0 0 (Nat.le_refl _)
    have h1 : bestN c ts tb (c.groups k) n ≤ bestN c ts tb' (c.groups k) n := by
      unfold bestN
      refine worth_le ?_
      unfold ptsOf passedG
      refine sum_filter_le fun g hgm hp => decide_eq_true ?_
      have hp := of_decide_eq_true hp
      rw [← hg n hn] at hp hgm ⊢
      exact h.grp (hns n hn).1 (hns n hn).2.1 (List.mem_range.mp hgm) hp
    omega
  · refine sum_map_le fun g hgm => ?_
    unfold singU
    refine foldl_le (fun n hn b b' hb => ?_) 0 0 (Nat.le_refl _)
    by_cases hp : gSt (c.groups k) (tb n) g = .passed
    · have hp' : gSt (c.groups k) (tb' n) g = .passed := by
        rw [← hg n hn] at hp hgm ⊢
        exact h.grp (hns n hn).1 (hns n hn).2.1 (List.mem_range.mp hgm) hp
      rw [if_pos hp, if_pos hp']
      omega
    · rw [if_neg hp]
      split <;> omega
/-! #### who solved -/
theorem late_le {t t' : Try} (h1 : t.2.1 = t'.2.1) (h2 : t.2.2 ≤ t'.2.2) : (lateAt c t).toNat ≤ (lateAt c t').toNat := by
  unfold lateAt
  rw [h1]
  by_cases h : c.due t'.2.1 ≤ t.2.2
  · rw [decide_eq_true h, decide_eq_true (Nat.le_trans h h2)]; exact Nat.le_refl _
  · rw [decide_eq_false h]; exact Nat.zero_le _
theorem solved_ge {k : Nat} {t : Try} (ht : t.2.1 = k) : ∀ {ns : List Nat} {w w' : Nat} {x : Nat × Nat}, w' ≤ w → (∀ n ∈ ns, (tryAt ts n).2.1 = k ∧ t.2.2 ≤ (tryAt ts n).2.2) → solvedFrom c ts tb w ns = some x → t.2.2 + 20 * w' + 60 * (lateAt c t).toNat ≤ x.1 ∧ t.2.2 ≤ x.2
  | [], _, _, _, _, _, h => nomatch h
  | n :: ns, w, w', x, hw, hn, h => by
    rw [solved_cons] at h
    obtain ⟨h1, h2⟩ := hn n List.mem_cons_self
    by_cases hp : tSt c ts tb n = .passed
    · rw [if_pos hp] at h
      cases Option.some.inj h
      have := late_le (c := c) (t := t) (t' := tryAt ts n) (by rw [ht, h1]) h2
      exact ⟨by show _ ≤ (tryAt ts n).2.2 + 20 * w + 60 * (lateAt c (tryAt ts n)).toNat; omega, h2⟩
    · rw [if_neg hp] at h
      exact solved_ge ht (by omega) (fun m hm => hn m (List.mem_cons_of_mem _ hm)) h
theorem solved_le (h : LeT c ts tb tb' a) {k : Nat} : ∀ {ns : List Nat} {w w' : Nat} {x : Nat × Nat}, w' ≤ w → (∀ n ∈ ns, n < ts.length ∧ (tryAt ts n).1 = a ∧ (tryAt ts n).2.1 = k) → ns.Pairwise (fun n m => (tryAt ts n).2.2 ≤ (tryAt ts m).2.2) → solvedFrom c ts tb w ns = some x → ∃ y, solvedFrom c ts tb' w' ns = some y ∧ y.1 ≤ x.1 ∧ y.2 ≤ x.2
  | [], _, _, _, _, _, _, h => nomatch h
  | n :: ns, w, w', x, hw, hn, hs, hx => by
    obtain ⟨h1, h2, h3⟩ := hn n List.mem_cons_self
    obtain ⟨s1, s2⟩ := List.pairwise_cons.mp hs
    rw [solved_cons] at hx ⊢
    by_cases hp : tSt c ts tb n = .passed
    · rw [if_pos hp] at hx
      rw [if_pos (h.pass h1 h2 hp)]
      cases Option.some.inj hx
      refine ⟨_, rfl, ?_, Nat.le_refl _⟩
      show (tryAt ts n).2.2 + 20 * w' + 60 * (lateAt c (tryAt ts n)).toNat ≤ (tryAt ts n).2.2 + 20 * w + 60 * (lateAt c (tryAt ts n)).toNat
      omega
    · rw [if_neg hp] at hx
      by_cases hp' : tSt c ts tb' n = .passed
      · rw [if_pos hp']
        obtain ⟨g1, g2⟩ := solved_ge (c := c) (t := tryAt ts n) (k := k) h3 (w' := w') (by omega) (fun m hm => ⟨(hn m (List.mem_cons_of_mem _ hm)).2.2, s1 m hm⟩) hx
        exact ⟨_, rfl, g1, g2⟩
      · rw [if_neg hp']
        refine solved_le h ?_ (fun m hm => hn m (List.mem_cons_of_mem _ hm)) s2 hx
        by_cases hf : tSt c ts tb' n = .failed
        · rw [decide_eq_true hf, decide_eq_true (h.fail h1 h2 hf)]
          show w' + 1 ≤ w + 1
          omega
        · rw [decide_eq_false hf]
          show w' + 0 ≤ _
          omega
theorem nums_rise (ot : TriesOk c ts) (team task u : Nat) : (numsOf ts team task u).Pairwise (fun n m => (tryAt ts n).2.2 ≤ (tryAt ts m).2.2) := by
  unfold numsOf
  refine List.Pairwise.filter _ ?_
  refine (List.pairwise_lt_range (n := ts.length)).imp_of_mem fun {a b} ha hb hab => ?_
  have ha := List.mem_range.mp ha
  have hb := List.mem_range.mp hb
  have h := List.pairwise_iff_getElem.mp ot.rise a b ha hb hab
  have e1 : tryAt ts a = ts[a] := by unfold tryAt; rw [List.getD_eq_getElem?_getD, List.getElem?_eq_getElem ha]; rfl
  have e2 : tryAt ts b = ts[b] := by unfold tryAt; rw [List.getD_eq_getElem?_getD, List.getElem?_eq_getElem hb]; rfl
  rw [e1, e2]
  exact h
theorem nums_of {team task u n : Nat} (h : n ∈ numsOf ts team task u) : n < ts.length ∧ (tryAt ts n).1 = team ∧ (tryAt ts n).2.1 = task := by
  refine ⟨numsOf_lt' h, ?_, numsOf_task h⟩
  have h1 := (List.mem_filter.mp h).2
  unfold isOf at h1
  rw [Bool.and_eq_true] at h1
  exact (of_decide_eq_true h1.1).1
theorem sol_le (h : LeT c ts tb tb' a) (ot : TriesOk c ts) {us : List Nat} {k : Nat} : (∀ x, solOf c ts tb us a k = some x → ∃ y, solOf c ts tb' us a k = some y ∧ y.1 ≤ x.1 ∧ y.2 ≤ x.2) := fun x hx =>
  solved_le h (Nat.le_refl 0) (fun n hn => nums_of hn) (nums_rise ot a k _) hx
theorem first_le (h : LeT c ts tb tb' a) (ot : TriesOk c ts) (us : List Nat) : ∀ i : Nat, (firstU c ts tb us a i).1 ≤ (firstU c ts tb' us a i).1 ∧ ((firstU c ts tb us a i).1 = (firstU c ts tb' us a i).1 → (firstU c ts tb' us a i).2.1 ≤ (firstU c ts tb us a i).2.1 ∧ (firstU c ts tb' us a i).2.2 ≤ (firstU c ts tb us a i).2.2)
  | 0 => ⟨Nat.le_refl _, fun _ => ⟨Nat.le_refl _, Nat.le_refl _⟩⟩
  | i + 1 => by
    obtain ⟨h1, h2⟩ := first_le h ot us i
    have e1 : firstU c ts tb us a (i + 1) = addSol (firstU c ts tb us a i) (solOf c ts tb us a i) := range_foldl _ _ _
    have e2 : firstU c ts tb' us a (i + 1) = addSol (firstU c ts tb' us a i) (solOf c ts tb' us a i) := range_foldl _ _ _
    rw [e1, e2]
    generalize firstU c ts tb us a i = A at h1 h2
    generalize firstU c ts tb' us a i = B at h1 h2
    have h3 := sol_le h ot (us := us) (k := i)
    cases q : solOf c ts tb us a i with
    | some x =>
      obtain ⟨y, e, l1, l2⟩ := h3 x q
      rw [e]
      refine ⟨by show A.1 + 1 ≤ B.1 + 1; omega, fun z => ?_⟩
      have z : A.1 + 1 = B.1 + 1 := z
      obtain ⟨k1, k2⟩ := h2 (by omega)
      exact ⟨by show B.2.1 + y.1 ≤ A.2.1 + x.1; omega, by show max B.2.2 y.2 ≤ max A.2.2 x.2; omega⟩
    | none =>
      cases q2 : solOf c ts tb' us a i with
      | none => exact ⟨h1, h2⟩
      | some y =>
        refine ⟨by show A.1 ≤ B.1 + 1; omega, fun z => ?_⟩
        have z : A.1 = B.1 + 1 := z
        omega
theorem pts_le (h : LeT c ts tb tb' a) (us : List Nat) (i : Nat) : ptsU c ts tb us a i ≤ ptsU c ts tb' us a i := by
  unfold ptsU
  refine foldl_le (fun k _ b b' hb => ?_) 0 0 (Nat.le_refl _)
  have := points_le h (k := k) (ns := numsOf ts a k (untAt us k)) fun n hn => nums_of hn
  omega
theorem score_le (h : LeT c ts tb tb' a) (ot : TriesOk c ts) (us : List Nat) : HT.lexLt (rankL (scoreL c ts tb us a)) (rankL (scoreL c ts tb' us a)) = false := by
  unfold scoreL
  by_cases hr : c.rule = sFirst
  · rw [if_pos hr, if_pos hr]
    obtain ⟨h1, h2⟩ := first_le h ot us c.tasks.length
    generalize firstU c ts tb us a c.tasks.length = A at h1 h2
    generalize firstU c ts tb' us a c.tasks.length = B at h1 h2
    unfold rankL
    simp only [List.headD_cons, List.tail_cons, HT.lexLt_cons]
    by_cases e : A.1 = B.1
    · obtain ⟨k1, k2⟩ := h2 e
      rw [if_pos (by omega)]
      by_cases e2 : (A.2.1 : Int) = B.2.1
      · rw [if_pos e2]
        by_cases e3 : (A.2.2 : Int) = B.2.2
        · rw [if_pos e3]; rfl
        · rw [if_neg e3]; exact decide_eq_false (by omega)
      · rw [if_neg e2]; exact decide_eq_false (by omega)
    · rw [if_neg (by omega)]
      exact decide_eq_false (by omega)
  · rw [if_neg hr, if_neg hr]
    have h1 := pts_le h us c.tasks.length
    unfold rankL
    simp only [List.headD_cons, List.tail_cons, HT.lexLt_cons]
    split
    · rfl
    · exact decide_eq_false (by omega)
end
/-! ### places -/
theorem lex_trans : ∀ {a b d : List Int}, HT.lexLt b a = false → HT.lexLt b d = true → HT.lexLt a d = true
  | [], [], _, _, h => h
  | [], _ :: _, [], _, h => nomatch h
  | [], _ :: _, _ :: _, _, _ => rfl
  | _ :: _, [], _, h, _ => nomatch h
  | x :: a, y :: b, [], _, h => nomatch h
  | x :: a, y :: b, z :: d, h1, h2 => by
    rw [HT.lexLt_cons] at h1 h2 ⊢
    by_cases e1 : y = x
    · rw [if_pos e1] at h1
      subst e1
      by_cases e2 : y = z
      · rw [if_pos e2] at h2 ⊢
        exact lex_trans h1 h2
      · rw [if_neg e2] at h2 ⊢
        exact h2
    · rw [if_neg e1] at h1
      have h1 := of_decide_eq_false h1
      by_cases e2 : y = z
      · rw [if_neg (by omega)]
        exact decide_eq_true (by omega)
      · rw [if_neg e2] at h2
        have h2 := of_decide_eq_true h2
        rw [if_neg (by omega)]
        exact decide_eq_true (by omega)
theorem lex_trans2 : ∀ {a b d : List Int}, HT.lexLt a b = true → HT.lexLt d b = false → HT.lexLt a d = true
  | [], [], _, h, _ => nomatch h
  | [], _ :: _, [], _, h => nomatch h
  | [], _ :: _, _ :: _, _, _ => rfl
  | _ :: _, [], _, h, _ => nomatch h
  | x :: a, y :: b, [], _, h => nomatch h
  | x :: a, y :: b, z :: d, h1, h2 => by
    rw [HT.lexLt_cons] at h1 h2 ⊢
    by_cases e1 : x = y
    · rw [if_pos e1] at h1
      subst e1
      by_cases e2 : z = x
      · rw [if_pos e2] at h2
        rw [if_pos e2.symm]
        exact lex_trans2 h1 h2
      · rw [if_neg e2] at h2
        have h2 := of_decide_eq_false h2
        rw [if_neg (fun z => e2 z.symm)]
        exact decide_eq_true (by omega)
    · rw [if_neg e1] at h1
      have h1 := of_decide_eq_true h1
      by_cases e2 : z = y
      · rw [if_neg (by omega)]
        exact decide_eq_true (by omega)
      · rw [if_neg e2] at h2
        have h2 := of_decide_eq_false h2
        rw [if_neg (by omega)]
        exact decide_eq_true (by omega)
theorem len_filter {ss : List (List Int)} {p : List Int → Bool} : (ss.filter p).length = ((List.range ss.length).filter fun o => p (scAt ss o)).length := by
  have h : ss = (List.range ss.length).map (scAt ss) := by
    apply List.ext_getElem?
    intro i
    rw [List.getElem?_map]
    by_cases hi : i < ss.length
    · rw [List.getElem?_range hi]; exact sc_at hi
    · rw [List.getElem?_eq_none (by omega), List.getElem?_eq_none (by rw [List.length_range]; omega)]; rfl
  rw (occs := [1]) [h]
  rw [List.filter_map, List.length_map]
  rfl
theorem filter_sub {α : Type} {l : List α} {p q : α → Bool} (h : ∀ x ∈ l, p x = true → q x = true) : (l.filter p).Sublist (l.filter q) := by
  induction l with
  | nil => exact .slnil
  | cons a l ih =>
    have ih := ih fun x hx => h x (List.mem_cons_of_mem _ hx)
    rw [List.filter_cons, List.filter_cons]
    by_cases hp : p a = true
    · rw [if_pos hp, if_pos (h a List.mem_cons_self hp)]; exact ih.cons_cons a
    · rw [if_neg hp]
      split
      · exact ih.cons a
      · exact ih
theorem lex_irrefl : ∀ a : List Int, HT.lexLt a a = false
  | [] => rfl
  | x :: a => by rw [HT.lexLt_cons, if_pos rfl]; exact lex_irrefl a
/-- the others no better, the team no worse: no worse place -/
theorem place_le {ss ss' : List (List Int)} {t : Nat} (hl : ss.length = ss'.length) (h1 : HT.lexLt (rankL (scAt ss t)) (rankL (scAt ss' t)) = false) (h2 : ∀ o, o < ss.length → o ≠ t → HT.lexLt (rankL (scAt ss' o)) (rankL (scAt ss o)) = false) : placeOf ss' t ≤ placeOf ss t := by
  unfold placeOf
  rw [len_filter, len_filter (ss := ss), ← hl]
  have h : ((List.range ss.length).filter fun o => HT.lexLt (rankL (scAt ss' o)) (rankL (scAt ss' t))).Sublist ((List.range ss.length).filter fun o => HT.lexLt (rankL (scAt ss o)) (rankL (scAt ss t))) := by
    refine filter_sub (fun o ho hp => ?_)
    have ho := List.mem_range.mp ho
    by_cases e : o = t
    · subst e
      exact absurd hp (by rw [lex_irrefl]; exact Bool.false_ne_true)
    · exact lex_trans (h2 o ho e) (lex_trans2 hp h1)
  have := h.length_le
  omega

end

section
variable [Tbs] {P : Program} {w : World} {K : PySem.W.Frag} {mg : Str → Option Value} {base : Heap}
/-! ### where no trial matters, all that may come tells alike -/
def Keeps (tb τ : Nat → Nat → Option Bool) : Prop := ∀ n t v, tb n t = some v → τ n t = some v
section
variable {c : Con} {ts : List Try} {tb τ : Nat → Nat → Option Bool}
theorem Keeps.gFail (h : Keeps tb τ) {n : Nat} {gs : List (Nat × Nat)} {g : Nat} (hf : gSt gs (tb n) g = .failed) : gSt gs (τ n) g = .failed := by
  rw [gSt_failed] at hf ⊢
  obtain ⟨j, h1, h2⟩ := hf
  exact ⟨j, h1, h _ _ _ h2⟩
theorem Keeps.gPass (h : Keeps tb τ) {n : Nat} {gs : List (Nat × Nat)} {g : Nat} (hf : gSt gs (tb n) g = .passed) : gSt gs (τ n) g = .passed := by
  rw [gSt_passed] at hf ⊢
  exact fun j h1 => h _ _ _ (hf j h1)
theorem Keeps.fail (h : Keeps tb τ) {n : Nat} (hf : tSt c ts tb n = .failed) : tSt c ts τ n = .failed := by
  rw [tSt_failed] at hf ⊢
  obtain ⟨g, h1, h2⟩ := hf
  exact ⟨g, h1, h.gFail h2⟩
theorem Keeps.pass (h : Keeps tb τ) {n : Nat} (hf : tSt c ts tb n = .passed) : tSt c ts τ n = .passed := by
  rw [tSt_passed] at hf ⊢
  exact fun g h1 => h.gPass (hf g h1)
/-- a group with no open trial that matters -/
theorem Keeps.settled (h : Keeps tb τ) {n : Nat} {gs : List (Nat × Nat)} {g : Nat} (ho : openG gs (tb n) g = []) : gSt gs (tb n) g = gSt gs (τ n) g := by
  unfold openG at ho
  split at ho
  · rename_i hf
    rw [hf, h.gFail hf]
  · have hall : ∀ j, j < (grp gs g).1 → tb n (pre gs g + j) = τ n (pre gs g + j) := fun j hj => by
      have h1 := List.filter_eq_nil_iff.mp (List.map_eq_nil_iff.mp ho) j (List.mem_range.mpr hj)
      cases q : tb n (pre gs g + j) with
      | none => rw [q] at h1; exact absurd rfl h1
      | some v => exact (h _ _ _ q).symm
    unfold gSt
    congr 1
    exact List.map_congr_left fun j hj => hall j (List.mem_range.mp hj)
theorem openTr_nil (ha : allOpen c ts tb = []) {n : Nat} (hn : n < ts.length) : openTr c ts tb n = [] := by
  unfold allOpen openUpTo at ha
  have := List.flatMap_eq_nil_iff.mp ha n (List.mem_range.mpr hn)
  exact List.map_eq_nil_iff.mp this
theorem openTo_nil {gs : List (Nat × Nat)} {f : Nat → Option Bool} (h : openTo gs f gs.length = []) {g : Nat} (hg : g < gs.length) : openG gs f g = [] := by
  unfold openTo at h
  exact List.flatMap_eq_nil_iff.mp h g (List.mem_range.mpr hg)
theorem Keeps.groups (h : Keeps tb τ) (ha : allOpen c ts tb = []) {n : Nat} (hn : n < ts.length) (hov : isOver c ts tb n = false) {g : Nat} (hg : g < (gsOf c ts n).length) : gSt (gsOf c ts n) (tb n) g = gSt (gsOf c ts n) (τ n) g := by
  have h1 := openTr_nil ha hn
  unfold openTr at h1
  rw [if_neg (by rw [hov]; exact Bool.false_ne_true)] at h1
  exact h.settled (openTo_nil h1 hg)
theorem Keeps.tSame (h : Keeps tb τ) (ha : allOpen c ts tb = []) {n : Nat} (hn : n < ts.length) (hov : isOver c ts tb n = false) : tSt c ts tb n = tSt c ts τ n := by
  unfold tSt gSts
  congr 1
  exact List.map_congr_left fun g hg => h.groups ha hn hov (List.mem_range.mp hg)
theorem numsOf_up (ts : List Try) (a b u : Nat) : (numsOf ts a b u).Pairwise (· < ·) := List.Pairwise.filter _ List.pairwise_lt_range
theorem numsOf_is {ts : List Try} {a b u n : Nat} (h : n ∈ numsOf ts a b u) : n < ts.length ∧ (tryAt ts n).1 = a ∧ (tryAt ts n).2.1 = b ∧ (tryAt ts n).2.2 < u := by
  obtain ⟨h1, h2⟩ := List.mem_filter.mp h
  unfold isOf at h2
  rw [Bool.and_eq_true] at h2
  obtain ⟨h3, h4⟩ := h2
  have h3 := of_decide_eq_true h3
  exact ⟨List.mem_range.mp h1, h3.1, h3.2, of_decide_eq_true h4⟩
theorem Keeps.solved (h : Keeps tb τ) (ha : allOpen c ts tb = []) {a b : Nat} : ∀ (ns pre' : List Nat) (w : Nat), numsOf ts a b c.fin = pre' ++ ns → (∀ k ∈ pre', tSt c ts tb k ≠ .passed) → solvedFrom c ts tb w ns = solvedFrom c ts τ w ns
  | [], _, _, _, _ => rfl
  | n :: ns, pre', w, e, hp => by
    have hm : n ∈ numsOf ts a b c.fin := by rw [e]; exact List.mem_append_right _ List.mem_cons_self
    obtain ⟨hn, e1, e2, e3⟩ := numsOf_is hm
    rw [solved_cons, solved_cons]
    by_cases q : tSt c ts tb n = .passed
    · rw [if_pos q, if_pos (h.pass q)]
    · have same : tSt c ts τ n = tSt c ts tb n := by
        by_cases qf : tSt c ts tb n = .failed
        · rw [qf, h.fail qf]
        · refine (h.tSame ha hn ?_).symm
          unfold isOver
          rw [decide_eq_false (show ¬ c.fin ≤ (tryAt ts n).2.2 by omega), decide_eq_false qf, Bool.false_or, Bool.false_or]
          have : (((numsOf ts (tryAt ts n).1 (tryAt ts n).2.1 c.fin).filter fun k => decide (k < n)).any fun k => decide (tSt c ts tb k = .passed)) = false := by
            rw [List.any_eq_false]
            intro k hk
            obtain ⟨h1, h2⟩ := List.mem_filter.mp hk
            have h2 := of_decide_eq_true h2
            rw [e1, e2, e] at h1
            have hu := numsOf_up ts a b c.fin
            rw [e] at hu
            rcases List.mem_append.mp h1 with h1 | h1
            · rw [decide_eq_false (hp k h1)]
              exact Bool.false_ne_true
            · have hu2 := (List.pairwise_append.mp hu).2.1
              rcases List.mem_cons.mp h1 with h1 | h1
              · omega
              · have := (List.pairwise_cons.mp hu2).1 k h1
                omega
          rw [this, Bool.and_false]
      rw [if_neg q, if_neg (by rw [same]; exact q), same]
      refine h.solved ha ns (pre' ++ [n]) _ (by rw [e, List.append_assoc]; rfl) fun k hk => ?_
      rcases List.mem_append.mp hk with hk | hk
      · exact hp k hk
      · rw [List.mem_singleton.mp hk]; exact q
theorem foldl_same {α β : Type} {f f' : β → α → β} : ∀ {l : List α} (b : β), (∀ x ∈ l, ∀ b, f b x = f' b x) → l.foldl f b = l.foldl f' b
  | [], _, _ => rfl
  | x :: l, b, h => by
    show l.foldl f (f b x) = l.foldl f' (f' b x)
    rw [h x List.mem_cons_self b]
    exact foldl_same _ fun y hy => h y (List.mem_cons_of_mem _ hy)
theorem Keeps.points (h : Keeps tb τ) (ha : allOpen c ts tb = []) (hr : c.rule ≠ sFirst) {a k : Nat} : pointsAt c ts tb k (numsOf ts a k c.fin) = pointsAt c ts τ k (numsOf ts a k c.fin) := by
  have key : ∀ n ∈ numsOf ts a k c.fin, ∀ g, g < (c.groups k).length → gSt (c.groups k) (tb n) g = gSt (c.groups k) (τ n) g := fun n hn g hg => by
    obtain ⟨h1, e1, e2, e3⟩ := numsOf_is hn
    have hov : isOver c ts tb n = false := by
      unfold isOver
      rw [decide_eq_false (show ¬ c.fin ≤ (tryAt ts n).2.2 by omega), decide_eq_false hr]
      rfl
    have eg : gsOf c ts n = c.groups k := by
      show c.groups (tryAt ts n).2.1 = _
      rw [e2]
    have := h.groups ha h1 hov (g := g) (by rw [eg]; exact hg)
    rw [eg] at this
    exact this
  unfold pointsAt
  split
  · unfold bestU
    refine foldl_same _ fun n hn b => ?_
    have : passedG (c.groups k) (tb n) = passedG (c.groups k) (τ n) := by
      unfold passedG
      exact List.filter_congr fun g hg => by rw [key n hn g (List.mem_range.mp hg)]
    unfold bestN
    rw [this]
  · congr 1
    refine List.map_congr_left fun g hg => ?_
    unfold singU
    exact foldl_same _ fun n hn b => by rw [key n hn g (List.mem_range.mp hg)]
theorem Keeps.stand (h : Keeps tb τ) (ha : allOpen c ts tb = []) : standL c ts tb = standL c ts τ := by
  unfold standL
  congr 1
  unfold scoresL
  refine List.map_congr_left fun t _ => ?_
  have hu : ∀ k, k < c.tasks.length → untAt (wholeU c) k = c.fin := fun k hk => by
    unfold untAt wholeU
    rw [List.getD_eq_getElem?_getD, List.getElem?_replicate, if_pos hk]
    rfl
  unfold scoreL
  by_cases hr : c.rule = sFirst
  · rw [if_pos hr, if_pos hr]
    have : firstU c ts tb (wholeU c) t c.tasks.length = firstU c ts τ (wholeU c) t c.tasks.length := by
      unfold firstU
      refine foldl_same _ fun k hk b => ?_
      have hk := List.mem_range.mp hk
      unfold solOf
      rw [hu k hk, h.solved (a := t) (b := k) ha (numsOf ts t k c.fin) [] 0 rfl fun _ h => nomatch h]
    rw [this]
  · rw [if_neg hr, if_neg hr]
    have : ptsU c ts tb (wholeU c) t c.tasks.length = ptsU c ts τ (wholeU c) t c.tasks.length := by
      unfold ptsU
      refine foldl_same _ fun k hk b => ?_
      have hk := List.mem_range.mp hk
      rw [hu k hk, h.points ha hr]
    rw [this]
end

end

section
variable [Tbs] {P : Program} {w : World} {K : PySem.W.Frag} {mg : Str → Option Value} {base : Heap}
/-! ### halls, plainly -/
inductive Evn where
  | offer (a k t : Nat)
  | take (j n t : Nat)
  | tell (j : Nat) (b : Bool)
  | fall (j : Nat)
  | mend (k t : Nat)
abbrev wOffer : Str := PySem.Str.ofString "offer"
abbrev wTake : Str := PySem.Str.ofString "take"
abbrev wTell : Str := PySem.Str.ofString "tell"
abbrev wFall : Str := PySem.Str.ofString "fall"
abbrev wMend : Str := PySem.Str.ofString "mend"
def evD : Evn → D
  | .offer a k t => .tup [.str wOffer, .int a, .int k, .int t]
  | .take j n t => .tup [.str wTake, .int j, .int n, .int t]
  | .tell j b => .tup [.str wTell, .int j, .bl b]
  | .fall j => .tup [.str wFall, .int j]
  | .mend k t => .tup [.str wMend, .int k, .int t]
abbrev Work := Option (Nat × Nat)
def wkD : Work → D
  | none => .non
  | some x => prD x
/-- a hall -/
structure Hs where
  c : Con
  ts : List Try
  us : List Ver
  ws : List Work
  es : List Evn
structure Hs.Ok (s : Hs) : Prop where
  oc : s.c.Ok
  ot : TriesOk s.c s.ts
  ov : VersOk s.c s.ts s.us
  wk : ∀ x, some x ∈ s.ws → x.1 < s.ts.length ∧ x.2 < szOf s.c s.ts x.1
  wl : 1 ≤ s.ws.length ∧ s.ws.length ≤ 5
/-! #### the table -/
def putV (us : List Ver) (x : Nat × Nat) (b : Bool) : List Ver := if x ∈ vpos us then us.map fun v => if (v.1, v.2.1) = x then (v.1, v.2.1, b) else v else us ++ [(x.1, x.2, b)]
def dropV (us : List Ver) (x : Nat × Nat) : List Ver := us.filter fun v => decide ((v.1, v.2.1) ≠ x)
theorem natK_inj' {a b : Nat × Nat} (h : natK a = natK b) : a = b := by
  obtain ⟨a1, a2⟩ := a
  obtain ⟨b1, b2⟩ := b
  have h : [(Sum.inl (a1 : Int) : Key), .inl (a2 : Int)] = [.inl (b1 : Int), .inl (b2 : Int)] := h
  injection h with h1 h2
  injection h2 with h2 _
  injection h1 with h1
  injection h2 with h2
  have e1 : a1 = b1 := by omega
  have e2 : a2 = b2 := by omega
  rw [e1, e2]
theorem natK_ver {v : Ver} {x : Nat × Nat} : verK v = natK x ↔ (v.1, v.2.1) = x := by
  constructor
  · intro h
    exact natK_inj' (a := (v.1, v.2.1)) (b := x) h
  · intro h
    rw [← h]
    rfl
theorem vpos_putV (us : List Ver) (x : Nat × Nat) (b : Bool) : vpos (putV us x b) = if x ∈ vpos us then vpos us else vpos us ++ [x] := by
  unfold putV
  by_cases h : x ∈ vpos us
  · rw [if_pos h, if_pos h]
    unfold vpos
    rw [List.map_map]
    refine List.map_congr_left fun v _ => ?_
    show ((if (v.1, v.2.1) = x then (v.1, v.2.1, b) else v).1, (if (v.1, v.2.1) = x then (v.1, v.2.1, b) else v).2.1) = _
    split <;> rfl
  · rw [if_neg h, if_neg h]
    unfold vpos
    rw [List.map_append]
    rfl
theorem putV_K (us : List Ver) (x : Nat × Nat) (b : Bool) : putK (vkD us) (natK x) (.bl b) = vkD (putV us x b) := by
  unfold putV
  by_cases h : x ∈ vpos us
  · rw [if_pos h]
    obtain ⟨w, hw, e⟩ := List.mem_map.mp h
    have hany : ((vkD us).any fun kv => decide (kv.1 = natK x)) = true := List.any_eq_true.mpr ⟨(verK w, V.bl w.2.2), List.mem_map.mpr ⟨w, hw, rfl⟩, decide_eq_true (natK_ver.mpr e)⟩
    unfold putK
    rw [if_pos hany]
    unfold vkD
    rw [List.map_map, List.map_map]
    refine List.map_congr_left fun v _ => ?_
    show (if verK v = natK x then (verK v, V.bl b) else (verK v, V.bl v.2.2)) = (verK (if (v.1, v.2.1) = x then (v.1, v.2.1, b) else v), V.bl (if (v.1, v.2.1) = x then (v.1, v.2.1, b) else v).2.2)
    by_cases z : (v.1, v.2.1) = x
    · rw [if_pos z, if_pos (natK_ver.mpr z)]; rfl
    · rw [if_neg z, if_neg (fun y => z (natK_ver.mp y))]
  · rw [if_neg h]
    have := vkD_put (vs := us) (n := x.1) (t := x.2) (b := b) h
    exact this
theorem dropV_K (us : List Ver) (x : Nat × Nat) : dropK (vkD us) (natK x) = vkD (dropV us x) := by
  unfold dropK vkD dropV
  rw [List.filter_map]
  congr 1
  refine List.filter_congr fun v _ => ?_
  show decide (verK v ≠ natK x) = decide ((v.1, v.2.1) ≠ x)
  exact dec_iff ⟨fun h z => h (natK_ver.mpr z), fun h z => h (natK_ver.mp z)⟩
theorem dropV_sub (us : List Ver) (x : Nat × Nat) : (dropV us x).Sublist us := List.filter_sublist
theorem VersOk.putV {c : Con} {ts : List Try} {us : List Ver} (o : VersOk c ts us) {x : Nat × Nat} (h : x.1 < ts.length ∧ x.2 < szOf c ts x.1) (b : Bool) : VersOk c ts (putV us x b) := by
  refine ⟨fun v hv => ?_, ?_⟩
  · have hm : (v.1, v.2.1) ∈ vpos (J.putV us x b) := List.mem_map.mpr ⟨v, hv, rfl⟩
    rw [vpos_putV] at hm
    have key : (v.1, v.2.1) ∈ vpos us → v.1 < ts.length ∧ v.2.1 < szOf c ts v.1 := fun hm => by
      obtain ⟨u, hu, e⟩ := List.mem_map.mp hm
      injection e with e1 e2
      have := o.ok u hu
      rw [e1, e2] at this
      exact this
    split at hm
    · exact key hm
    · rcases List.mem_append.mp hm with hm | hm
      · exact key hm
      · have e := List.mem_singleton.mp hm
        have e1 : v.1 = x.1 := congrArg Prod.fst e
        have e2 : v.2.1 = x.2 := congrArg Prod.snd e
        rw [e1, e2]
        exact h
  · show (vpos (J.putV us x b)).Nodup
    rw [vpos_putV]
    have hn : (vpos us).Nodup := o.once
    split
    · exact hn
    · rename_i hx
      exact List.nodup_append.mpr ⟨hn, List.nodup_cons.mpr ⟨List.not_mem_nil, .nil⟩, fun a ha b hb z => hx (by rw [List.mem_singleton.mp hb] at z; rw [← z]; exact ha)⟩
/-! #### what comes about -/
def Hs.free (s : Hs) : List (Nat × Nat) := (allOpen s.c s.ts (tbOf s.us)).filter fun x => !decide (some x ∈ s.ws)
def Hs.offer (s : Hs) (a k t : Nat) : Hs := { s with ts := s.ts ++ [(a, k, t)], es := s.es ++ [.offer a k t] }
def Hs.take (s : Hs) (j : Nat) : Hs := match s.free with
  | [] => s
  | x :: _ => { s with ws := s.ws.set j (some x), es := s.es ++ [.take j x.1 x.2] }
def Hs.tell (s : Hs) (j : Nat) (x : Nat × Nat) (b : Bool) : Hs := { s with us := putV s.us x b, ws := s.ws.set j none, es := s.es ++ [.tell j b] }
def Hs.fall (s : Hs) (j : Nat) : Hs := { s with ws := s.ws.set j none, es := s.es ++ [.fall j] }
def offW (x : Nat × Nat) (w : Work) : Work := if w = some x then none else w
def mendU (ts : List Try) (k t : Nat) : Nat → List Ver → List Ver
  | 0, us => us
  | i + 1, us => if (tryAt ts i).2.1 = k then dropV (mendU ts k t i us) (i, t) else mendU ts k t i us
def mendW (ts : List Try) (k t : Nat) : Nat → List Work → List Work
  | 0, ws => ws
  | i + 1, ws => if (tryAt ts i).2.1 = k then (mendW ts k t i ws).map (offW (i, t)) else mendW ts k t i ws
def Hs.mendTo (s : Hs) (k t i : Nat) : Hs := { s with us := mendU s.ts k t i s.us, ws := mendW s.ts k t i s.ws }
def Hs.mend (s : Hs) (k t : Nat) : Hs := { s with us := mendU s.ts k t s.ts.length s.us, ws := mendW s.ts k t s.ts.length s.ws, es := s.es ++ [.mend k t] }
theorem tryAt_app {ts : List Try} {t : Try} {n : Nat} (h : n < ts.length) : tryAt (ts ++ [t]) n = tryAt ts n := by
  unfold tryAt
  rw [List.getD_eq_getElem?_getD, List.getD_eq_getElem?_getD, List.getElem?_append_left h]
def lastT (ts : List Try) : Nat := (ts.getLast?.map fun t => t.2.2).getD 0
theorem last_le {ts : List Try} (h : ts.Pairwise fun a b => a.2.2 ≤ b.2.2) : ∀ t ∈ ts, t.2.2 ≤ lastT ts := by
  intro t ht
  unfold lastT
  cases q : ts.getLast? with
  | none => rw [List.getLast?_eq_none_iff.mp q] at ht; cases ht
  | some x =>
    show t.2.2 ≤ x.2.2
    obtain ⟨i, hi⟩ := List.getElem?_of_mem ht
    rw [List.getLast?_eq_getElem?] at q
    have hl := (List.getElem?_eq_some_iff.mp hi).1
    by_cases z : i = ts.length - 1
    · rw [z, q] at hi; cases hi; exact Nat.le_refl _
    · have h1 := List.pairwise_iff_getElem.mp h i (ts.length - 1) hl (by omega) (by omega)
      rw [(List.getElem?_eq_some_iff.mp hi).2, (List.getElem?_eq_some_iff.mp q).2] at h1
      exact h1
theorem Hs.Ok.offer {s : Hs} (o : s.Ok) {a k t : Nat} (ha : a < s.c.teams) (hk : k < s.c.tasks.length) (h1 : lastT s.ts ≤ t) (h2 : t ≤ 999) (hl : s.ts.length < 200) : (s.offer a k t).Ok := by
  have sz : ∀ n, n < s.ts.length → szOf s.c (s.ts ++ [(a, k, t)]) n = szOf s.c s.ts n := fun n hn => by
    show s.c.size _ = s.c.size _
    rw [tryAt_app hn]
  refine ⟨o.oc, ⟨?_, fun x hx => ?_, ?_⟩, ⟨fun v hv => ?_, o.ov.once⟩, fun x hx => ?_, o.wl⟩
  · show (s.ts ++ [(a, k, t)]).length ≤ 200
    rw [List.length_append]
    show s.ts.length + 1 ≤ 200
    omega
  · rcases List.mem_append.mp hx with hx | hx
    · exact o.ot.ok x hx
    · rw [List.mem_singleton.mp hx]
      exact ⟨ha, hk, h2⟩
  · refine List.pairwise_append.mpr ⟨o.ot.rise, List.pairwise_singleton _ _, fun x hx y hy => ?_⟩
    rw [List.mem_singleton.mp hy]
    exact Nat.le_trans (last_le o.ot.rise x hx) h1
  · obtain ⟨h3, h4⟩ := o.ov.ok v hv
    show v.1 < (s.ts ++ [(a, k, t)]).length ∧ v.2.1 < szOf s.c (s.ts ++ [(a, k, t)]) v.1
    rw [List.length_append, sz _ h3]
    exact ⟨by omega, h4⟩
  · obtain ⟨h3, h4⟩ := o.wk x hx
    show x.1 < (s.ts ++ [(a, k, t)]).length ∧ x.2 < szOf s.c (s.ts ++ [(a, k, t)]) x.1
    rw [List.length_append, sz _ h3]
    exact ⟨by omega, h4⟩
theorem free_ok {s : Hs} {x : Nat × Nat} (h : x ∈ s.free) : x.1 < s.ts.length ∧ x.2 < szOf s.c s.ts x.1 := by
  obtain ⟨h1, _⟩ := List.mem_filter.mp h
  exact mem_trialsUpTo.mp (mem_open h1).1
theorem set_works {ws : List Work} {j : Nat} {w : Work} {x : Nat × Nat} (h : some x ∈ ws.set j w) : some x ∈ ws ∨ w = some x := by
  rcases List.mem_or_eq_of_mem_set h with h | h
  · exact .inl h
  · exact .inr h.symm
theorem Hs.Ok.take {s : Hs} (o : s.Ok) (j : Nat) : (s.take j).Ok := by
  unfold Hs.take
  split
  · exact o
  · rename_i x l e
    have hx := free_ok (s := s) (x := x) (by rw [e]; exact List.mem_cons_self)
    refine ⟨o.oc, o.ot, o.ov, fun y hy => ?_, by show 1 ≤ (s.ws.set j (some x)).length ∧ (s.ws.set j (some x)).length ≤ 5; rw [List.length_set]; exact o.wl⟩
    rcases set_works hy with h | h
    · exact o.wk y h
    · cases h; exact hx
theorem Hs.Ok.tell {s : Hs} (o : s.Ok) {j : Nat} {x : Nat × Nat} (h : s.ws[j]? = some (some x)) (b : Bool) : (s.tell j x b).Ok := by
  have hx := o.wk x (List.mem_of_getElem? h)
  refine ⟨o.oc, o.ot, o.ov.putV hx b, fun y hy => ?_, by show 1 ≤ (s.ws.set j none).length ∧ (s.ws.set j none).length ≤ 5; rw [List.length_set]; exact o.wl⟩
  rcases set_works hy with h | h
  · exact o.wk y h
  · cases h
theorem Hs.Ok.fall {s : Hs} (o : s.Ok) (j : Nat) : (s.fall j).Ok := by
  refine ⟨o.oc, o.ot, o.ov, fun y hy => ?_, by show 1 ≤ (s.ws.set j none).length ∧ (s.ws.set j none).length ≤ 5; rw [List.length_set]; exact o.wl⟩
  rcases set_works hy with h | h
  · exact o.wk y h
  · cases h
theorem mendU_sub (ts : List Try) (k t : Nat) : ∀ (i : Nat) (us : List Ver), (mendU ts k t i us).Sublist us
  | 0, us => List.Sublist.refl _
  | i + 1, us => by
    have h := mendU_sub ts k t i us
    show (if (tryAt ts i).2.1 = k then dropV (mendU ts k t i us) (i, t) else mendU ts k t i us).Sublist us
    split
    · exact (dropV_sub _ _).trans h
    · exact h
theorem mendW_mem (ts : List Try) (k t : Nat) {x : Nat × Nat} : ∀ {i : Nat} {ws : List Work}, some x ∈ mendW ts k t i ws → some x ∈ ws
  | 0, ws, h => h
  | i + 1, ws, h => by
    have h : some x ∈ (if (tryAt ts i).2.1 = k then (mendW ts k t i ws).map (offW (i, t)) else mendW ts k t i ws) := h
    split at h
    · obtain ⟨w, hw, e⟩ := List.mem_map.mp h
      unfold offW at e
      split at e
      · cases e
      · rw [e] at hw
        exact mendW_mem ts k t hw
    · exact mendW_mem ts k t h
theorem mendW_len (ts : List Try) (k t : Nat) : ∀ (i : Nat) (ws : List Work), (mendW ts k t i ws).length = ws.length
  | 0, ws => rfl
  | i + 1, ws => by
    have h := mendW_len ts k t i ws
    show (if (tryAt ts i).2.1 = k then (mendW ts k t i ws).map (offW (i, t)) else mendW ts k t i ws).length = _
    split
    · rw [List.length_map, h]
    · exact h
theorem Hs.Ok.mendTo {s : Hs} (o : s.Ok) (k t i : Nat) : (s.mendTo k t i).Ok :=
  ⟨o.oc, o.ot, ⟨fun v hv => o.ov.ok v ((mendU_sub _ _ _ _ _).subset hv), ((mendU_sub s.ts k t i s.us).map _).nodup o.ov.once⟩, fun x hx => o.wk x (mendW_mem _ _ _ hx), by
    show 1 ≤ (mendW s.ts k t i s.ws).length ∧ (mendW s.ts k t i s.ws).length ≤ 5
    rw [mendW_len]; exact o.wl⟩
theorem Hs.Ok.mend {s : Hs} (o : s.Ok) (k t : Nat) : (s.mend k t).Ok := let q := o.mendTo k t s.ts.length; ⟨q.oc, q.ot, q.ov, q.wk, q.wl⟩
/-! #### data -/
theorem evD_tupO (e : Evn) : (evD e).tupO = true := by cases e <;> rfl
theorem wkD_tupO (w : Work) : (wkD w).tupO = true := by cases w <;> rfl
theorem fit_wk (w : Work) : (wkD w).low = true := by cases w <;> rfl
theorem wk_eqv (x y : Work) : PyData.eqv (wkD x).py (wkD y).py = decide (x = y) := by
  cases x with
  | none => cases y with
    | none => rfl
    | some y => rfl
  | some x => cases y with
    | none => rfl
    | some y =>
      have h := eqv2 x.1 x.2 y.1 y.2
      show PyData.eqv (prD x).py (prD y).py = _
      refine Eq.trans h (dec_iff ⟨fun z => ?_, fun z => ?_⟩)
      · rw [show x = y from Prod.ext z.1 z.2]
      · cases z; exact ⟨rfl, rfl⟩
theorem wk_in (x : Work) (ws : List Work) : ((D.pyA (ws.map wkD)).any fun z => PyData.eqv z (wkD x).py) = decide (x ∈ ws) := by
  induction ws with
  | nil => rfl
  | cons w ws ih =>
    show (PyData.eqv (wkD w).py (wkD x).py || (D.pyA (ws.map wkD)).any fun z => PyData.eqv z (wkD x).py) = _
    rw [ih, wk_eqv]
    by_cases h : w = x
    · subst h; simp
    · rw [decide_eq_false h, Bool.false_or]
      refine dec_iff ⟨fun z => List.mem_cons_of_mem _ z, fun z => (List.mem_cons.mp z).resolve_left fun y => h y.symm⟩
theorem wks_ok (ws : List Work) : (D.lst (ws.map wkD)).ok = true := ok_lows fun d hd => by
  obtain ⟨w, _, rfl⟩ := List.mem_map.mp hd
  exact fit_wk w
theorem wk_ok (w : Work) : (wkD w).ok = true := by cases w <;> rfl
theorem vers_len {c : Con} {ts : List Try} {us : List Ver} (oc : c.Ok) (ot : TriesOk c ts) (ov : VersOk c ts us) : us.length ≤ 4000 := by
  have h := sub_len (l := vpos us) (m := allTr c ts) ov.once fun x hx => by
    obtain ⟨u, hu, rfl⟩ := List.mem_map.mp hx
    exact mem_trialsUpTo.mpr (ov.ok u hu)
  have h4 : (allTr c ts).length ≤ 20 * ts.length := trialsUpTo_len oc ot (Nat.le_refl _)
  have h5 := ot.len
  unfold vpos at h
  rw [List.length_map] at h
  omega
theorem open_len {c : Con} {ts : List Try} (oc : c.Ok) (ot : TriesOk c ts) (tb : Nat → Nat → Option Bool) : (allOpen c ts tb).length ≤ 4000 := by
  have h1 := openUpTo_len oc ot tb (Nat.le_refl ts.length)
  have h2 := ot.len
  show (openUpTo c ts tb ts.length).length ≤ 4000
  omega

end

section
variable [Tbs] {P : Program} {w : World} {K : PySem.W.Frag} {mg : Str → Option Value} {base : Heap}
abbrev s_Hall_init : Stmt := inClass (top 73) 0
abbrev N_Hall_init : List Str := ["self", "contest", "judges"]
abbrev P_Hall_init : List Str := ["self", "contest", "judges"]
theorem sc_Hall_init : FnScope N_Hall_init P_Hall_init (defScope s_Hall_init) := ⟨rfl, rfl, rfl, by decide +kernel, rfl, by decide +kernel, by decide +kernel⟩

abbrev s_Hall_need_judge : Stmt := inClass (top 73) 1
abbrev N_Hall_need_judge : List Str := ["self", "judge"]
abbrev P_Hall_need_judge : List Str := ["self", "judge"]
theorem sc_Hall_need_judge : FnScope N_Hall_need_judge P_Hall_need_judge (defScope s_Hall_need_judge) := ⟨rfl, rfl, rfl, by decide +kernel, rfl, by decide +kernel, by decide +kernel⟩

abbrev s_Hall_offer : Stmt := inClass (top 73) 2
abbrev N_Hall_offer : List Str := ["self", "team", "task", "time"]
abbrev P_Hall_offer : List Str := ["self", "team", "task", "time"]
theorem sc_Hall_offer : FnScope N_Hall_offer P_Hall_offer (defScope s_Hall_offer) := ⟨rfl, rfl, rfl, by decide +kernel, rfl, by decide +kernel, by decide +kernel⟩

abbrev s_Hall_free : Stmt := inClass (top 73) 3
abbrev N_Hall_free : List Str := ["self", "work"]
abbrev P_Hall_free : List Str := ["self"]
theorem sc_Hall_free : FnScope N_Hall_free P_Hall_free (defScope s_Hall_free) := ⟨rfl, rfl, rfl, by decide +kernel, rfl, by decide +kernel, by decide +kernel⟩

abbrev s_Hall_take : Stmt := inClass (top 73) 4
abbrev N_Hall_take : List Str := ["self", "judge", "some"]
abbrev P_Hall_take : List Str := ["self", "judge"]
theorem sc_Hall_take : FnScope N_Hall_take P_Hall_take (defScope s_Hall_take) := ⟨rfl, rfl, rfl, by decide +kernel, rfl, by decide +kernel, by decide +kernel⟩

abbrev s_Hall_tell : Stmt := inClass (top 73) 5
abbrev N_Hall_tell : List Str := ["self", "judge", "passed"]
abbrev P_Hall_tell : List Str := ["self", "judge", "passed"]
theorem sc_Hall_tell : FnScope N_Hall_tell P_Hall_tell (defScope s_Hall_tell) := ⟨rfl, rfl, rfl, by decide +kernel, rfl, by decide +kernel, by decide +kernel⟩

abbrev s_Hall_fall : Stmt := inClass (top 73) 6
abbrev N_Hall_fall : List Str := ["self", "judge"]
abbrev P_Hall_fall : List Str := ["self", "judge"]
theorem sc_Hall_fall : FnScope N_Hall_fall P_Hall_fall (defScope s_Hall_fall) := ⟨rfl, rfl, rfl, by decide +kernel, rfl, by decide +kernel, by decide +kernel⟩

abbrev s_Hall_mend : Stmt := inClass (top 73) 7
abbrev N_Hall_mend : List Str := ["self", "task", "trial", "number", "one", "work"]
abbrev P_Hall_mend : List Str := ["self", "task", "trial"]
theorem sc_Hall_mend : FnScope N_Hall_mend P_Hall_mend (defScope s_Hall_mend) := ⟨rfl, rfl, rfl, by decide +kernel, rfl, by decide +kernel, by decide +kernel⟩

abbrev s_Hall_tries : Stmt := inClass (top 73) 8
abbrev N_Hall_tries : List Str := ["self"]
abbrev P_Hall_tries : List Str := ["self"]
theorem sc_Hall_tries : FnScope N_Hall_tries P_Hall_tries (defScope s_Hall_tries) := ⟨rfl, rfl, rfl, by decide +kernel, rfl, by decide +kernel, by decide +kernel⟩

abbrev s_Hall_verdicts : Stmt := inClass (top 73) 9
abbrev N_Hall_verdicts : List Str := ["self", "key"]
abbrev P_Hall_verdicts : List Str := ["self"]
theorem sc_Hall_verdicts : FnScope N_Hall_verdicts P_Hall_verdicts (defScope s_Hall_verdicts) := ⟨rfl, rfl, rfl, by decide +kernel, rfl, by decide +kernel, by decide +kernel⟩

abbrev s_Hall_had : Stmt := inClass (top 73) 10
abbrev N_Hall_had : List Str := ["self", "judge", "work"]
abbrev P_Hall_had : List Str := ["self"]
theorem sc_Hall_had : FnScope N_Hall_had P_Hall_had (defScope s_Hall_had) := ⟨rfl, rfl, rfl, by decide +kernel, rfl, by decide +kernel, by decide +kernel⟩

abbrev s_Hall_log : Stmt := inClass (top 73) 14
abbrev N_Hall_log : List Str := ["self"]
abbrev P_Hall_log : List Str := ["self"]
theorem sc_Hall_log : FnScope N_Hall_log P_Hall_log (defScope s_Hall_log) := ⟨rfl, rfl, rfl, by decide +kernel, rfl, by decide +kernel, by decide +kernel⟩

/-! ### halls -/
abbrev hlFs (vc vo vt vw ve : V) : List (Str × V) := [("contest", vc), ("offered", vo), ("table", vt), ("works", vw), ("events", ve)]
theorem conT (c : Con) : c.d.tupO = true := by
  show (true && (true && (true && (true && ((D.tup (c.tasks.map tkD)).tupO && true))))) = true
  rw [show (D.tup (c.tasks.map tkD)).tupO = true from tupOA_map (fun t => by
    show ((D.tup (t.1.map gD)).tupO && (true && true)) = true
    rw [show (D.tup (t.1.map gD)).tupO = true from tupOA_map (fun _ => rfl) _]; rfl) _]
  rfl
theorem tab_us (us : List Ver) : TabOk (vkD us) (tbOf us) := ⟨fun n t => valV_ver us n t⟩
/-- the parts of a hall -/
structure Parts (K : PySem.W.Frag) (G M : Hp) (vc : V) (lo lt lw le : Addr) (s : Hs) : Prop where
  c : Rp K G vc s.c.d
  o : ∃ xs, M lo = some (.lst xs) ∧ RpA K G xs (s.ts.map trD)
  t : M lt = some (.dT (vkD s.us))
  w : ∃ xs, M lw = some (.lst xs) ∧ RpA K G xs (s.ws.map wkD)
  e : ∃ xs, M le = some (.lst xs) ∧ RpA K G xs (s.es.map evD)
  ow : lo ≠ lw
  oe : lo ≠ le
  we : lw ≠ le
section
variable {G M G1 M1 : Hp} {vc : V} {lo lt lw le p : Addr} {s : Hs}
theorem Parts.ot (a : Parts K G M vc lo lt lw le s) : lo ≠ lt ∧ lw ≠ lt ∧ le ≠ lt := by
  obtain ⟨x1, h1, _⟩ := a.o
  obtain ⟨x2, h2, _⟩ := a.w
  obtain ⟨x3, h3, _⟩ := a.e
  have h := a.t
  exact ⟨fun z => (by rw [z, h] at h1; cases h1), fun z => (by rw [z, h] at h2; cases h2), fun z => (by rw [z, h] at h3; cases h3)⟩
theorem Parts.grow (a : Parts K G M vc lo lt lw le s) (e : Ex G G1) (h : ∀ b ∈ [lo, lt, lw, le], M1 b = M b) : Parts K G1 M1 vc lo lt lw le s := by
  obtain ⟨x1, h1, r1⟩ := a.o
  obtain ⟨x2, h2, r2⟩ := a.w
  obtain ⟨x3, h3, r3⟩ := a.e
  exact ⟨a.c.ex e, ⟨x1, by rw [h lo (by simp)]; exact h1, r1.ex e⟩, by rw [h lt (by simp)]; exact a.t, ⟨x2, by rw [h lw (by simp)]; exact h2, r2.ex e⟩, ⟨x3, by rw [h le (by simp)]; exact h3, r3.ex e⟩, a.ow, a.oe, a.we⟩
theorem Parts.ex (a : Parts K G M vc lo lt lw le s) (e : Ex G G1) : Parts K G1 M vc lo lt lw le s := a.grow e fun _ _ => rfl
theorem Parts.not_in (a : Parts K G M vc lo lt lw le s) {b : Addr} (h : M b = none) : b ≠ lo ∧ b ≠ lt ∧ b ≠ lw ∧ b ≠ le := by
  obtain ⟨x1, h1, _⟩ := a.o
  obtain ⟨x2, h2, _⟩ := a.w
  obtain ⟨x3, h3, _⟩ := a.e
  have h4 := a.t
  exact ⟨fun z => (by rw [z, h1] at h; cases h), fun z => (by rw [z, h4] at h; cases h), fun z => (by rw [z, h2] at h; cases h), fun z => (by rw [z, h3] at h; cases h)⟩
theorem Parts.put_o (a : Parts K G M vc lo lt lw le s) {xs : List V} {ts : List Try} (r : RpA K G xs (ts.map trD)) : Parts K G (upd M lo (.lst xs)) vc lo lt lw le { s with ts := ts } := by
  obtain ⟨x2, h2, r2⟩ := a.w
  obtain ⟨x3, h3, r3⟩ := a.e
  obtain ⟨n1, n2, n3⟩ := a.ot
  exact ⟨a.c, ⟨xs, upd_same, r⟩, by rw [upd_ne (Ne.symm n1)]; exact a.t, ⟨x2, by rw [upd_ne (Ne.symm a.ow)]; exact h2, r2⟩, ⟨x3, by rw [upd_ne (Ne.symm a.oe)]; exact h3, r3⟩, a.ow, a.oe, a.we⟩
theorem Parts.put_t (a : Parts K G M vc lo lt lw le s) {us : List Ver} : Parts K G (upd M lt (.dT (vkD us))) vc lo lt lw le { s with us := us } := by
  obtain ⟨x1, h1, r1⟩ := a.o
  obtain ⟨x2, h2, r2⟩ := a.w
  obtain ⟨x3, h3, r3⟩ := a.e
  obtain ⟨n1, n2, n3⟩ := a.ot
  exact ⟨a.c, ⟨x1, by rw [upd_ne n1]; exact h1, r1⟩, upd_same, ⟨x2, by rw [upd_ne n2]; exact h2, r2⟩, ⟨x3, by rw [upd_ne n3]; exact h3, r3⟩, a.ow, a.oe, a.we⟩
theorem Parts.put_w (a : Parts K G M vc lo lt lw le s) {xs : List V} {ws : List Work} (r : RpA K G xs (ws.map wkD)) : Parts K G (upd M lw (.lst xs)) vc lo lt lw le { s with ws := ws } := by
  obtain ⟨x1, h1, r1⟩ := a.o
  obtain ⟨x3, h3, r3⟩ := a.e
  obtain ⟨n1, n2, n3⟩ := a.ot
  exact ⟨a.c, ⟨x1, by rw [upd_ne a.ow]; exact h1, r1⟩, by rw [upd_ne (Ne.symm n2)]; exact a.t, ⟨xs, upd_same, r⟩, ⟨x3, by rw [upd_ne (Ne.symm a.we)]; exact h3, r3⟩, a.ow, a.oe, a.we⟩
theorem Parts.put_e (a : Parts K G M vc lo lt lw le s) {xs : List V} {es : List Evn} (r : RpA K G xs (es.map evD)) : Parts K G (upd M le (.lst xs)) vc lo lt lw le { s with es := es } := by
  obtain ⟨x1, h1, r1⟩ := a.o
  obtain ⟨x2, h2, r2⟩ := a.w
  obtain ⟨n1, n2, n3⟩ := a.ot
  exact ⟨a.c, ⟨x1, by rw [upd_ne a.oe]; exact h1, r1⟩, by rw [upd_ne (Ne.symm n3)]; exact a.t, ⟨x2, by rw [upd_ne a.we]; exact h2, r2⟩, ⟨xs, upd_same, r⟩, a.ow, a.oe, a.we⟩
/-- works in a new list -/
theorem Parts.new_w (a : Parts K G M vc lo lt lw le s) {xs : List V} {ws : List Work} (hp : M p = none) (r : RpA K G xs (ws.map wkD)) : Parts K G (upd M p (.lst xs)) vc lo lt p le { s with ws := ws } := by
  obtain ⟨x1, h1, r1⟩ := a.o
  obtain ⟨x3, h3, r3⟩ := a.e
  obtain ⟨n1, n2, n3, n4⟩ := a.not_in hp
  exact ⟨a.c, ⟨x1, by rw [upd_ne (Ne.symm n1)]; exact h1, r1⟩, by rw [upd_ne (Ne.symm n2)]; exact a.t, ⟨xs, upd_same, r⟩, ⟨x3, by rw [upd_ne (Ne.symm n4)]; exact h3, r3⟩, Ne.symm n1, a.oe, n4⟩
/-- another object changes -/
theorem Parts.other (a : Parts K G M vc lo lt lw le s) {b : Addr} {u : HO} (n : b ∉ [lo, lt, lw, le]) : Parts K G (upd M b u) vc lo lt lw le s :=
  a.grow (Ex.refl _) fun x hx => upd_ne fun z => n (z ▸ hx)
end
structure HA where
  o : Addr
  dx : Addr
  lo : Addr
  lt : Addr
  lw : Addr
  le : Addr
def HA.all (h : HA) : List Addr := [h.o, h.lo, h.lt, h.lw, h.le]
structure HallAt (K : PySem.W.Frag) (G M : Hp) (h : HA) (s : Hs) : Prop where
  ok : s.Ok
  ex : ∃ vc, M h.o = some (.ins (cA K "Hall") h.dx (hlFs vc (.ref h.lo) (.ref h.lt) (.ref h.lw) (.ref h.le))) ∧ Parts K G M vc h.lo h.lt h.lw h.le s
/-- a hall that is read -/
structure HallRd (K : PySem.W.Frag) (G : Hp) (o : Addr) (s : Hs) : Prop where
  ok : s.Ok
  ex : ∃ dx vc vo vt vw ve, G o = some (.ins (cA K "Hall") dx (hlFs vc vo vt vw ve)) ∧ Rp K G vc s.c.d ∧ Rp K G vo (trsD s.ts) ∧ Rp K G vt (.tab (vkD s.us)) ∧ Rp K G vw (.lst (s.ws.map wkD)) ∧ Rp K G ve (.lst (s.es.map evD))
section
variable {G M G1 M1 H H1 : Hp} {h : HA} {s : Hs} {o : Addr} {σ : L2.St} {te : TE}
theorem HallAt.rd (a : HallAt K G M h s) (ow : Owns M G H) : HallRd K (over G M) h.o s := ⟨a.ok, by
  obtain ⟨vc, h1, p⟩ := a.ex
  have g := ow.gg
  obtain ⟨x1, k1, r1⟩ := p.o
  obtain ⟨x2, k2, r2⟩ := p.w
  obtain ⟨x3, k3, r3⟩ := p.e
  exact ⟨h.dx, vc, _, _, _, _, over_some h1, p.c.ex g, .lst (over_some k1) (r1.ex g), .tab (over_some p.t), .lst (over_some k2) (r2.ex g), .lst (over_some k3) (r3.ex g)⟩⟩
theorem HallAt.ne (a : HallAt K G M h s) : h.o ∉ [h.lo, h.lt, h.lw, h.le] := by
  obtain ⟨vc, h1, p⟩ := a.ex
  obtain ⟨x1, k1, _⟩ := p.o
  obtain ⟨x2, k2, _⟩ := p.w
  obtain ⟨x3, k3, _⟩ := p.e
  have k4 := p.t
  intro z
  simp only [List.mem_cons, List.not_mem_nil, or_false] at z
  rcases z with z | z | z | z
  · rw [z, k1] at h1; cases h1
  · rw [z, k4] at h1; cases h1
  · rw [z, k2] at h1; cases h1
  · rw [z, k3] at h1; cases h1
theorem HallAt.grow (a : HallAt K G M h s) (e : Ex G G1) (hm : ∀ b ∈ h.all, M1 b = M b) : HallAt K G1 M1 h s := ⟨a.ok, by
  obtain ⟨vc, h1, p⟩ := a.ex
  exact ⟨vc, by rw [hm h.o List.mem_cons_self]; exact h1, p.grow e fun b hb => hm b (List.mem_cons_of_mem _ hb)⟩⟩
theorem HallAt.exx (a : HallAt K G M h s) (e : Ex G G1) : HallAt K G1 M h s := a.grow e fun _ _ => rfl
theorem HallRd.exx (a : HallRd K G o s) (e : Ex G G1) : HallRd K G1 o s := ⟨a.ok, by
  obtain ⟨dx, vc, vo, vt, vw, ve, h1, r1, r2, r3, r4, r5⟩ := a.ex
  exact ⟨dx, vc, vo, vt, vw, ve, e.k _ _ h1 rfl, r1.ex e, r2.ex e, r3.ex e, r4.ex e, r5.ex e⟩⟩
theorem HallAt.stand (a : HallAt K G M h s) : ∀ b ∈ h.all, ∃ u, M b = some u := by
  obtain ⟨vc, h1, p⟩ := a.ex
  obtain ⟨x1, k1, _⟩ := p.o
  obtain ⟨x2, k2, _⟩ := p.w
  obtain ⟨x3, k3, _⟩ := p.e
  intro b hb
  unfold HA.all at hb
  simp only [List.mem_cons, List.not_mem_nil, or_false] at hb
  rcases hb with rfl | rfl | rfl | rfl | rfl
  · exact ⟨_, h1⟩
  · exact ⟨_, k1⟩
  · exact ⟨_, p.t⟩
  · exact ⟨_, k2⟩
  · exact ⟨_, k3⟩
/-! fields -/
structure HallC (K : PySem.W.Frag) : Prop where
  k : Cls K (cA K "Hall")
  c : NoAttr K (cA K "Hall") "contest"
  o : NoAttr K (cA K "Hall") "offered"
  t : NoAttr K (cA K "Hall") "table"
  w : NoAttr K (cA K "Hall") "works"
  e : NoAttr K (cA K "Hall") "events"
theorem HallRd.fc (a : HallRd K G o s) (C : HallC K) (ho : EvO te σ G o) : EvD K (tFld K te "contest") σ G s.c.d := by
  obtain ⟨dx, vc, vo, vt, vw, ve, h1, r1, r2, r3, r4, r5⟩ := a.ex
  exact e_fld ho h1 C.k C.c (by rfl) r1
theorem HallRd.fo (a : HallRd K G o s) (C : HallC K) (ho : EvO te σ G o) : EvD K (tFld K te "offered") σ G (trsD s.ts) := by
  obtain ⟨dx, vc, vo, vt, vw, ve, h1, r1, r2, r3, r4, r5⟩ := a.ex
  exact e_fld ho h1 C.k C.o (by rfl) r2
theorem HallRd.ft (a : HallRd K G o s) (C : HallC K) (ho : EvO te σ G o) : EvD K (tFld K te "table") σ G (.tab (vkD s.us)) := by
  obtain ⟨dx, vc, vo, vt, vw, ve, h1, r1, r2, r3, r4, r5⟩ := a.ex
  exact e_fld ho h1 C.k C.t (by rfl) r3
theorem HallRd.fw (a : HallRd K G o s) (C : HallC K) (ho : EvO te σ G o) : EvD K (tFld K te "works") σ G (.lst (s.ws.map wkD)) := by
  obtain ⟨dx, vc, vo, vt, vw, ve, h1, r1, r2, r3, r4, r5⟩ := a.ex
  exact e_fld ho h1 C.k C.w (by rfl) r4
theorem HallRd.fe (a : HallRd K G o s) (C : HallC K) (ho : EvO te σ G o) : EvD K (tFld K te "events") σ G (.lst (s.es.map evD)) := by
  obtain ⟨dx, vc, vo, vt, vw, ve, h1, r1, r2, r3, r4, r5⟩ := a.ex
  exact e_fld ho h1 C.k C.e (by rfl) r5
theorem HallAt.oo (a : HallAt K G M h s) (C : HallC K) (ho : EvO te σ (over G M) h.o) : EvO (tFld K te "offered") σ (over G M) h.lo := by
  obtain ⟨vc, h1, p⟩ := a.ex
  exact o_fld ho (over_some h1) C.k C.o (by rfl)
theorem HallAt.ot (a : HallAt K G M h s) (C : HallC K) (ho : EvO te σ (over G M) h.o) : EvO (tFld K te "table") σ (over G M) h.lt := by
  obtain ⟨vc, h1, p⟩ := a.ex
  exact o_fld ho (over_some h1) C.k C.t (by rfl)
theorem HallAt.ow (a : HallAt K G M h s) (C : HallC K) (ho : EvO te σ (over G M) h.o) : EvO (tFld K te "works") σ (over G M) h.lw := by
  obtain ⟨vc, h1, p⟩ := a.ex
  exact o_fld ho (over_some h1) C.k C.w (by rfl)
theorem HallAt.oe (a : HallAt K G M h s) (C : HallC K) (ho : EvO te σ (over G M) h.o) : EvO (tFld K te "events") σ (over G M) h.le := by
  obtain ⟨vc, h1, p⟩ := a.ex
  exact o_fld ho (over_some h1) C.k C.e (by rfl)
/-! parts change -/
theorem HallAt.put_o (a : HallAt K G M h s) {xs : List V} {ts : List Try} (ok : Hs.Ok { s with ts := ts }) (r : RpA K G xs (ts.map trD)) : HallAt K G (upd M h.lo (.lst xs)) h { s with ts := ts } := ⟨ok, by
  have n := a.ne
  obtain ⟨vc, h1, p⟩ := a.ex
  exact ⟨vc, by rw [upd_ne (fun z => n (by rw [z]; simp))]; exact h1, p.put_o r⟩⟩
theorem HallAt.put_t (a : HallAt K G M h s) {us : List Ver} (ok : Hs.Ok { s with us := us }) : HallAt K G (upd M h.lt (.dT (vkD us))) h { s with us := us } := ⟨ok, by
  have n := a.ne
  obtain ⟨vc, h1, p⟩ := a.ex
  exact ⟨vc, by rw [upd_ne (fun z => n (by rw [z]; simp))]; exact h1, p.put_t⟩⟩
theorem HallAt.put_w (a : HallAt K G M h s) {xs : List V} {ws : List Work} (ok : Hs.Ok { s with ws := ws }) (r : RpA K G xs (ws.map wkD)) : HallAt K G (upd M h.lw (.lst xs)) h { s with ws := ws } := ⟨ok, by
  have n := a.ne
  obtain ⟨vc, h1, p⟩ := a.ex
  exact ⟨vc, by rw [upd_ne (fun z => n (by rw [z]; simp))]; exact h1, p.put_w r⟩⟩
theorem HallAt.put_e (a : HallAt K G M h s) {xs : List V} {es : List Evn} (r : RpA K G xs (es.map evD)) : HallAt K G (upd M h.le (.lst xs)) h { s with es := es } := ⟨⟨a.ok.oc, a.ok.ot, a.ok.ov, a.ok.wk, a.ok.wl⟩, by
  have n := a.ne
  obtain ⟨vc, h1, p⟩ := a.ex
  exact ⟨vc, by rw [upd_ne (fun z => n (by rw [z]; simp))]; exact h1, p.put_e r⟩⟩
theorem HallAt.new_w (a : HallAt K G M h s) {p : Addr} {xs : List V} {ws : List Work} {dx' : Addr} {fs : List (Str × V)} (ok : Hs.Ok { s with ws := ws }) (hp : M p = none) (r : RpA K G xs (ws.map wkD)) (hi : M h.o = some (.ins (cA K "Hall") dx' fs)) :
    HallAt K G (upd (upd M p (.lst xs)) h.o (.ins (cA K "Hall") dx' (putF "works" (.ref p) fs))) { h with lw := p } { s with ws := ws } := ⟨ok, by
  have n := a.ne
  obtain ⟨vc, h1, q⟩ := a.ex
  rw [h1] at hi
  cases hi
  have np : p ≠ h.o := fun z => by rw [z, h1] at hp; cases hp
  refine ⟨vc, upd_same, (q.new_w hp r).other fun z => ?_⟩
  simp only [List.mem_cons, List.not_mem_nil, or_false] at z n
  rcases z with z | z | z | z
  · exact n (.inl z)
  · exact n (.inr (.inl z))
  · exact np z.symm
  · exact n (.inr (.inr (.inr z)))⟩
end
theorem Rp.wk {G : Hp} {v : V} {w : Work} (r : Rp K G v (wkD w)) : True := trivial
theorem RpA.setw {G : Hp} : ∀ {xs : List V} {ws : List Work} {j : Nat} {v : V} {w : Work}, RpA K G xs (ws.map wkD) → Rp K G v (wkD w) → RpA K G (xs.set j v) ((ws.set j w).map wkD)
  | _, [], _, _, _, h, _ => by cases h; exact .nil
  | _, _ :: _, 0, _, _, h, r => by
    cases h with
    | cons h1 h2 => exact .cons r h2
  | _, _ :: _, j + 1, _, _, h, r => by
    cases h with
    | cons h1 h2 => exact .cons h1 (RpA.setw (j := j) h2 r)
theorem RpA.snocm {α : Type} {f : α → D} {G : Hp} {xs : List V} {l : List α} {v : V} {a : α} (h : RpA K G xs (l.map f)) (r : Rp K G v (f a)) : RpA K G (xs ++ [v]) ((l ++ [a]).map f) := by
  rw [List.map_append]
  exact h.snoc r

end

section
variable [Tbs] {P : Program} {w : World} {K : PySem.W.Frag} {mg : Str → Option Value} {base : Heap}
/-! ### the methods of a hall -/
/-- a method that changes the hall -/
def spHm (K : PySem.W.Frag) (R : Hs → List D → D → Hs → Prop) : Sp := fun vs H Q _ => ∃ G M h s ws ds r s', vs = .ref h.o :: ws ∧ Ex G H ∧ Owns M G H ∧ HallAt K G M h s ∧ RpA K G ws ds ∧ R s ds r s' ∧
  ∀ v G' M' H' (h' : HA), h'.o = h.o → Ex G G' → Chg G M H h.all G' M' H' h'.all → HallAt K G' M' h' s' → Rp K G' v r → Q v H'
/-- one that only reads: a new list -/
def spHf (K : PySem.W.Frag) (f : Hs → List D) : Sp := fun vs H Q _ => ∃ G o s, vs = [.ref o] ∧ Ex G H ∧ HallRd K G o s ∧
  ∀ p xs G' H', Step G H G' H' → H p = none → G' p = none → H' p = some (.lst xs) → RpA K G' xs (f s) → Q (.ref p) H'
abbrev hallC (T : Tx K mg) : HallC K := ⟨T.k_Hall, T.n_Hall_contest, T.n_Hall_offered, T.n_Hall_table, T.n_Hall_works, T.n_Hall_events⟩
section
variable {G : Hp} {σ : L2.St} {to : TE} {o : Addr} {s : Hs} {f : Hs → List D} {m : Str}
theorem f_hallR (ho : EvO to σ G o) (a : HallRd K G o s) (hl : ∀ x1 x2 x3 x4 x5, (hlFs x1 x2 x3 x4 x5).lookup m = none) : EvF K (tMeth (cA K "Hall") m (spHf K f) [] E0 to tNil) σ G (f s) := by
  obtain ⟨dx, vc, vo, vt, vw, ve, h1, _⟩ := a.ex
  exact f_methR ho h1 (hl _ _ _ _ _) a_nil fun vs G1 H1 Q e1 e2 r q => by
    cases r
    exact ⟨G1, o, s, rfl, e2, a.exx e1, q⟩
end
theorem e_wkNot {G : Hp} {σ : L2.St} {te : TE} {w : Work} (h : EvD K te σ G (wkD w)) : EvD K (tOp (fun x y H Q => y = .non ∧ Q (.bl (!decide (x = .non))) H) te (tC .non)) σ G (.bl w.isSome) := by
  cases w with
  | none => exact e_notN h rfl
  | some x => exact e_notN h rfl
theorem e_wkIs {G : Hp} {σ : L2.St} {te : TE} {w : Work} (h : EvD K te σ G (wkD w)) : EvD K (tOp (fun x y H Q => y = .non ∧ Q (.bl (decide (x = .non))) H) te (tC .non)) σ G (.bl w.isNone) := by
  cases w with
  | none => exact e_isN h rfl
  | some x => exact e_isN h rfl
theorem ok_trs (ts : List Try) : (trsD ts).ok = true := ok_lows fun d hd => by
  obtain ⟨t, _, rfl⟩ := List.mem_map.mp hd
  rfl
theorem e_lastT {G : Hp} {σ : L2.St} {te : TE} {ts : List Try} (h : EvD K te σ G (trsD ts)) : EvD K (tIf (tTest (tOp (rNeA K) te (tLst tNil))) (tOp (rIx K) (tOp (rIx K) te (tUn (rU fun i => .int (-i)) (tC (.int 1)))) (tC (.int 2))) (tC (.int 0))) σ G (.int (lastT ts)) := by
  cases q : ts.getLast? with
  | none =>
    have e0 := List.getLast?_eq_none_iff.mp q
    subst e0
    exact e_if (a := false) (b_test (EvD.bl (e_neD (d1 := trsD []) (d2 := .lst []) h (EvF.toD (f_lst a_nil (by decide))) rfl rfl) rfl)) (fun z => nomatch z) fun _ => e_int
  | some t =>
    have e1 : lastT ts = t.2.2 := by unfold lastT; rw [q]; rfl
    rw [e1]
    have hne : ts ≠ [] := fun z => by rw [z] at q; cases q
    refine e_if (a := true) (b_test (EvD.bl (e_neD (d1 := trsD ts) (d2 := .lst []) h (EvF.toD (f_lst a_nil (by decide))) (ok_trs ts) rfl) ?_)) (fun _ => ?_) fun z => nomatch z
    · cases ts with
      | nil => exact absurd rfl hne
      | cons a l => rfl
    · exact e_ix (d1 := trD t) (i := 2) (e_ix (d1 := trsD ts) (i := -1) h (e_neg e_int) (atI_last (by rw [List.getLast?_map, q]; rfl))) e_int rfl
abbrev sp_Hall_tries (K : PySem.W.Frag) : Sp := spHf K fun s => s.ts.map trD
theorem ok_Hall_tries {f : Addr} {fd : FuncData} (F : Fun K "tries" "Hall.tries" s_Hall_tries f fd) (T : Tx K mg) : FnOk P w K mg base CX0 1 f fd P_Hall_tries (sp_Hall_tries K) := by
  refine F.ok sc_Hall_tries (fun vs H Q E h => ?_) (fun cdv A outer s H vs Q E hr h => ?_)
  · obtain ⟨G, o, s, rfl, e, a, q⟩ := h
    first | rfl | exact congrArg (· + 1) ra.len | exact congrArg (· + 2) ra.len
  · obtain ⟨G, o, s, rfl, e, a, q⟩ := h
    refine ⟨_, (pss_one (ps_ret (pe_callTy (call_listK K rfl) (by rfl) T.n_list (by decide +kernel) (pa_cons (pe_fldK K rfl (pv 0) rfl) pa_nil)))), ?_⟩
    try dsimp only [cxOf, Cx.nox, Cx.wish]
    exact s_retF (K := K) e (f_list (d := trsD s.ts) (a.fo (hallC T) (o_name rfl)) rfl) q
abbrev sp_Hall_log (K : PySem.W.Frag) : Sp := spHf K fun s => s.es.map evD
abbrev sp_Hall_verdicts (K : PySem.W.Frag) : Sp := spHf K fun s => (told s.us).map vrD
theorem ok_Hall_verdicts {f : Addr} {fd : FuncData} (F : Fun K "verdicts" "Hall.verdicts" s_Hall_verdicts f fd) (T : Tx K mg) : FnOk P w K mg base CX0 1 f fd P_Hall_verdicts (sp_Hall_verdicts K) := by
  refine F.ok sc_Hall_verdicts (fun vs H Q E h => ?_) (fun cdv A outer s H vs Q E hr h => ?_)
  · obtain ⟨G, o, s, rfl, e, a, q⟩ := h
    first | rfl | exact congrArg (· + 1) ra.len | exact congrArg (· + 2) ra.len
  · obtain ⟨G, o, s, rfl, e, a, q⟩ := h
    refine ⟨_, (pss_one (ps_ret (pe_lc (own := [("key", 1)]) (g := gName 1) (tt := tYes) rfl sc_Hall_verdicts.nd (pi_seqK K rfl (pe_callB (cr_sortedDT rfl) (by rfl) T.n_sorted (by decide +kernel) (pa_cons (pe_fldK K rfl (pv 0) rfl) pa_nil))) (blkOk_by (own := [("key", 1)]) (N := N_Hall_verdicts) (sc := defScope s_Hall_verdicts) (by decide +kernel)) (fun _ _ _ _ _ => (pg_name (i := 1) sc_Hall_verdicts.nd rfl (by first | exact Or.inl rfl | exact Or.inr rfl))) (fun _ _ _ _ _ => pts_nil) (fun _ _ _ _ _ => (pe_op (op_addK K rfl) (pv 1) (pe_tup (pa_cons (pe_dget (hu_of hr) (pe_fldK K rfl (pv 0) rfl) (pv 1) (fun _ _ => rfl)) pa_nil))))))), ?_⟩
    try dsimp only [cxOf, Cx.nox, Cx.wish]
    have hl := vers_len a.ok.oc a.ok.ot a.ok.ov
    exact s_retF (K := K) e (f_told (us := s.us) (vs := s.us) ⟨fun _ h => h, a.ok.ov.once⟩ (a.ft (hallC T) (o_name rfl)) (fun us h => match us, h with | [_], _ => rfl) (by omega) (fun G1 e1 y => (a.exx e1).ft (hallC T) (o_name rfl)) (fun y => rfl)) q
def hadD (j : Nat) : Work → D
  | none => .non
  | some x => .tup [.int j, .int x.1, .int x.2]
def hadL (ws : List Work) : List D := pick ws.length (fun j => (ws.getD j none).isSome) fun j => hadD j (ws.getD j none)
theorem wk_at {ws : List Work} {j : Nat} (h : j < ws.length) : ws[j]? = some (ws.getD j none) := by
  rw [List.getD_eq_getElem?_getD, List.getElem?_eq_getElem h]; rfl
abbrev sp_Hall_had (K : PySem.W.Frag) : Sp := spHf K fun s => hadL s.ws
theorem ok_Hall_had {f : Addr} {fd : FuncData} (F : Fun K "had" "Hall.had" s_Hall_had f fd) (T : Tx K mg) : FnOk P w K mg base CX0 1 f fd P_Hall_had (sp_Hall_had K) := by
  refine F.ok sc_Hall_had (fun vs H Q E h => ?_) (fun cdv A outer s H vs Q E hr h => ?_)
  · obtain ⟨G, o, s, rfl, e, a, q⟩ := h
    first | rfl | exact congrArg (· + 1) ra.len | exact congrArg (· + 2) ra.len
  · obtain ⟨G, o, s, rfl, e, a, q⟩ := h
    refine ⟨_, (pss_one (ps_ret (pe_lc (own := [("judge", 1), ("work", 2)]) (g := gTup K 2 (gCons (gName 1) (gCons (gName 2) gNil))) (tt := _) rfl sc_Hall_had.nd (pi_enK K rfl (by rfl) T.n_enumerate (pa_cons (pe_fldK K rfl (pv 0) rfl) pa_nil)) (blkOk_by (own := [("judge", 1), ("work", 2)]) (N := N_Hall_had) (sc := defScope s_Hall_had) (by decide +kernel)) (fun _ _ _ _ _ => (pg_tup rfl (pgs_cons (pg_name (i := 1) sc_Hall_had.nd rfl (by first | exact Or.inl rfl | exact Or.inr rfl)) (pgs_cons (pg_name (i := 2) sc_Hall_had.nd rfl (by first | exact Or.inl rfl | exact Or.inr rfl)) pgs_nil)))) (fun _ _ _ _ _ => (pts_one (pt_cmpR op_notN (pv 2) pe_non (nomark _)))) (fun _ _ _ _ _ => (pe_op (op_addK K rfl) (pe_tup (pa_cons (pv 1) pa_nil)) (pv 2)))))), ?_⟩
    try dsimp only [cxOf, Cx.nox, Cx.wish]
    have hl := a.ok.wl
    refine s_retF (K := K) e (f_lc (n := s.ws.length) (js := [1, 2]) (fun j => [.int j, wkD (s.ws.getD j none)]) (fun j => (s.ws.getD j none).isSome) (fun j => hadD j (s.ws.getD j none)) (i_enL' (List.length_map _) (a.fw (hallC T) (o_name rfl))) (fun j hj => ?_) (by omega) (fun _ _ => rfl) (fun us _ => wipe_set (by decide)) (fun j hj G1 e1 us ru => ?_) (fun j hj hb G1 e1 us ru => ?_)) q
    · rw [nth_map (wk_at hj)]; exact g_two
    · obtain ⟨y1, y2, rfl, ry1, ry2⟩ := ru.two
      exact b_test (e_wkNot (e_var rfl ry2))
    · obtain ⟨y1, y2, rfl, ry1, ry2⟩ := ru.two
      cases q2 : s.ws.getD j none with
      | none => rw [q2] at hb; cases hb
      | some x =>
        rw [q2] at ry2
        exact e_catA (ds := [.int j]) (es := [.int x.1, .int x.2]) (e_tup1 (e_var rfl ry1)) (e_var rfl ry2) (by show 1 + 2 ≤ 1000000; decide)
abbrev sp_Hall_free (K : PySem.W.Frag) : Sp := spHf K fun s => s.free.map prD
theorem ok_Hall_free {f : Addr} {fd : FuncData} (F : Fun K "free" "Hall.free" s_Hall_free f fd) (T : Tx K mg) (d_all_open : Dk P w K mg base 6 "all_open" P_all_open (sp_all_open K)) : FnOk P w K mg base CX0 7 f fd P_Hall_free (sp_Hall_free K) := by
  refine F.ok sc_Hall_free (fun vs H Q E h => ?_) (fun cdv A outer s H vs Q E hr h => ?_)
  · obtain ⟨G, o, s, rfl, e, a, q⟩ := h
    first | rfl | exact congrArg (· + 1) ra.len | exact congrArg (· + 2) ra.len
  · obtain ⟨G, o, s, rfl, e, a, q⟩ := h
    refine ⟨_, (pss_one (ps_ret (pe_lc (own := [("work", 1)]) (g := gName 1) (tt := _) rfl sc_Hall_free.nd (pi_seqK K rfl (pe_fn d_all_open (hr.mono (by decide)) (by rfl) (pa_cons (pe_fldK K rfl (pv 0) rfl) (pa_cons (pe_fldK K rfl (pv 0) rfl) (pa_cons (pe_fldK K rfl (pv 0) rfl) pa_nil))))) (blkOk_by (own := [("work", 1)]) (N := N_Hall_free) (sc := defScope s_Hall_free) (by decide +kernel)) (fun _ _ _ _ _ => (pg_name (i := 1) sc_Hall_free.nd rfl (by first | exact Or.inl rfl | exact Or.inr rfl))) (fun _ _ _ _ _ => (pts_one (pt_cmpR (op_ninDK K rfl (hu65 hr)) (pv 1) (pe_fldK K rfl (pv 0) rfl) (by rfl)))) (fun _ _ _ _ _ => (pv 1))))), ?_⟩
    try dsimp only [cxOf, Cx.nox, Cx.wish]
    have hol := open_len a.ok.oc a.ok.ot (tbOf s.us)
    refine s_retF (K := K) e (f_lcm (xs := allOpen s.c s.ts (tbOf s.us)) (Y := nth ((allOpen s.c s.ts (tbOf s.us)).map prD)) (js := [1]) (fun _ x => [prD x]) (fun x => !decide (some x ∈ s.ws)) prD
      (i_seqL' (List.length_map _) (EvF.toD (f_call (K := K) (a_cons (a.fc (hallC T) (o_name rfl)) (a_cons (a.fo (hallC T) (o_name rfl)) (a_one (a.ft (hallC T) (o_name rfl))))) ⟨s.c, s.ts, vkD s.us, tbOf s.us, rfl, a.ok.oc, a.ok.ot, tab_us s.us, rfl⟩))) (fun i x hx => by rw [nth_map hx]; exact g_name) (by omega) (fun _ _ _ => rfl) (fun us _ => wipe_set (by decide)) (fun i x hx G2 e2 us ru => ?_) (fun i x hx _ G2 e2 us ru => ?_)) q
    · obtain ⟨y, rfl, ry⟩ := ru.one
      exact b_test (EvD.bl (e_ninD (d1 := wkD (some x)) (e_var rfl ry) ((a.exx e2).fw (hallC T) (o_name rfl)) (wk_ok _) (wks_ok _)) (by rw [wk_in]))
    · obtain ⟨y, rfl, ry⟩ := ru.one
      exact e_var rfl ry
def sp_Hall_need_judge (K : PySem.W.Frag) : Sp := fun vs H Q _ => ∃ G o s j, vs = [.ref o, .int (j : Nat)] ∧ Ex G H ∧ HallRd K G o s ∧ j < s.ws.length ∧ ∀ G' H', Step G H G' H' → Q .non H'
theorem ok_Hall_need_judge {f : Addr} {fd : FuncData} (F : Fun K "need_judge" "Hall.need_judge" s_Hall_need_judge f fd) (T : Tx K mg) (d_is_between : Dk P w K mg base 1 "is_between" P_is_between (sp_is_between K)) : FnOk P w K mg base CX0 2 f fd P_Hall_need_judge (sp_Hall_need_judge K) := by
  refine F.ok sc_Hall_need_judge (fun vs H Q E h => ?_) (fun cdv A outer s H vs Q E hr h => ?_)
  · obtain ⟨G, o, s, j, rfl, e, a, hj, q⟩ := h
    first | rfl | exact congrArg (· + 1) ra.len | exact congrArg (· + 2) ra.len
  · obtain ⟨G, o, s, j, rfl, e, a, hj, q⟩ := h
    refine ⟨_, (pss_one (ps_if (pt_not (pt_val (pe_fn d_is_between (hr.mono (by decide)) (by rfl) (pa_cons (pv 1) (pa_cons pe_int (pa_cons (pe_op op_sub (pe_callB (call_lenK K rfl) (by rfl) T.n_len (by decide +kernel) (pa_cons (pe_fldK K rfl (pv 0) rfl) pa_nil)) pe_int) pa_nil)))))) (pss_one ps_never) pss_nil)), ?_⟩
    try dsimp only [cxOf, Cx.nox, Cx.wish]
    exact s_if (b := false) e (b_notT (b_B (e_btw (i := (j : Nat)) (lo := 0) (hi := (s.ws.length : Int) - 1) (e_var rfl (.int _)) e_int (e_sub (e_len (d := .lst (s.ws.map wkD)) (a.fw (hallC T) (o_name rfl)) (congrArg some (List.length_map _))) e_int) (by omega) (by omega)))) (fun z => nomatch z) fun _ G1 H1 s1 => q G1 H1 s1
theorem e_needJ {G : Hp} {σ : L2.St} {to tj : TE} {o : Addr} {s : Hs} {j : Nat} (ho : EvO to σ G o) (a : HallRd K G o s) (hj : EvD K tj σ G (.int j)) (hl : j < s.ws.length) : EvD K (tMeth (cA K "Hall") "need_judge" (sp_Hall_need_judge K) [] E0 to (tCons tj tNil)) σ G .non := by
  obtain ⟨dx, vc, vo, vt, vw, ve, h1, _⟩ := a.ex
  exact e_methR ho h1 (by rfl) (a_one hj) fun vs G1 H1 Q e1 e2 r q => by
    obtain ⟨v, rfl, rv⟩ := r.one
    have := rv.int_of
    subst this
    exact ⟨G1, o, s, j, rfl, e2, a.exx e1, hl, fun G' H' s' => q .non G' H' s' .non⟩
def R_h_offer (s : Hs) (ds : List D) (r : D) (s' : Hs) : Prop := ∃ a k t : Nat, ds = [.int a, .int k, .int t] ∧ a < s.c.teams ∧ k < s.c.tasks.length ∧ lastT s.ts ≤ t ∧ t ≤ 999 ∧ s.ts.length < 200 ∧ s.es.length < 90000 ∧ r = .int s.ts.length ∧ s' = s.offer a k t
abbrev sp_Hall_offer (K : PySem.W.Frag) : Sp := spHm K R_h_offer
theorem ok_Hall_offer {f : Addr} {fd : FuncData} (F : Fun K "offer" "Hall.offer" s_Hall_offer f fd) (T : Tx K mg) (d_is_between : Dk P w K mg base 1 "is_between" P_is_between (sp_is_between K)) : FnOk P w K mg base CX0 2 f fd P_Hall_offer (sp_Hall_offer K) := by
  refine F.ok sc_Hall_offer (fun vs H Q E h => ?_) (fun cdv A outer s H vs Q E hr h => ?_)
  · obtain ⟨G, M, h, s, ws, ds, r, s', rfl, e, ow, a, ra, ⟨ta, tk, tt, rfl, h1, h2, h3, h4, h5, h6, rfl, rfl⟩, q⟩ := h
    first | rfl | exact congrArg (· + 1) ra.len | exact congrArg (· + 2) ra.len
  · obtain ⟨G, M, h, s, ws, ds, r, s', rfl, e, ow, a, ra, ⟨ta, tk, tt, rfl, h1, h2, h3, h4, h5, h6, rfl, rfl⟩, q⟩ := h
    refine ⟨_, (pss_cons (ps_if (pt_not (pt_val (pe_fn d_is_between (hr.mono (by decide)) (by rfl) (pa_cons (pv 1) (pa_cons pe_int (pa_cons (pe_op op_sub (pe_ix (ix_seqK K rfl) (pe_fldK K rfl (pv 0) rfl) pe_int (fun _ _ => rfl)) pe_int) pa_nil)))))) (pss_one ps_never) pss_nil)
    (pss_cons (ps_if (pt_not (pt_val (pe_fn d_is_between (hr.mono (by decide)) (by rfl) (pa_cons (pv 2) (pa_cons pe_int (pa_cons (pe_op op_sub (pe_callB (call_lenK K rfl) (by rfl) T.n_len (by decide +kernel) (pa_cons (pe_ix (ix_seqK K rfl) (pe_fldK K rfl (pv 0) rfl) pe_int (fun _ _ => rfl)) pa_nil)) pe_int) pa_nil)))))) (pss_one ps_never) pss_nil)
    (pss_cons (ps_if (pt_not (pt_val (pe_fn d_is_between (hr.mono (by decide)) (by rfl) (pa_cons (pv 3) (pa_cons (pe_ifExp (pt_cmpR (op_neK K rfl hr.units) (pe_fldK K rfl (pv 0) rfl) (pe_lst pa_nil) (nomark _)) (pe_ix (ix_seqK K rfl) (pe_ix (ix_seqK K rfl) (pe_fldK K rfl (pv 0) rfl) (pe_un un_neg pe_int) (fun _ _ => rfl)) pe_int (fun _ _ => rfl)) pe_int) (pa_cons (pe_gI rfl T.c_MOST_TIME) pa_nil)))))) (pss_one ps_never) pss_nil)
    (pss_cons (ps_if (pt_cmpR (op_eqK K rfl hr.units) (pe_callB (call_lenK K rfl) (by rfl) T.n_len (by decide +kernel) (pa_cons (pe_fldK K rfl (pv 0) rfl) pa_nil)) (pe_gI rfl T.c_MOST_TRIES) (nomark _)) (pss_one ps_never) pss_nil)
    (pss_cons (ps_expr (pe_bm PySem.F.plainAttrs_list PySem.F.slot_list_append PySem.F.type_list_append mt_append (pe_fldK K rfl (pv 0) rfl) (pa_cons (pe_tup (pa_cons (pv 1) (pa_cons (pv 2) (pa_cons (pv 3) pa_nil)))) pa_nil)))
    (pss_cons (ps_expr (pe_bm PySem.F.plainAttrs_list PySem.F.slot_list_append PySem.F.type_list_append mt_append (pe_fldK K rfl (pv 0) rfl) (pa_cons (pe_tup (pa_cons pe_str (pa_cons (pv 1) (pa_cons (pv 2) (pa_cons (pv 3) pa_nil))))) pa_nil)))
    (pss_one (ps_ret (pe_op op_sub (pe_callB (call_lenK K rfl) (by rfl) T.n_len (by decide +kernel) (pa_cons (pe_fldK K rfl (pv 0) rfl) pa_nil)) pe_int))))))))), ?_⟩
    try dsimp only [cxOf, Cx.nox, Cx.wish]
    obtain ⟨v1, v2, v3, rfl, r1, r2, r3⟩ := ra.three
    have c0 : Chg G M H h.all G M H h.all := Chg.refl e ow
    have C := hallC T
    have rd := a.rd ow
    refine q_whenC c0 (b := false) (b_notT (b_B (e_btw (i := (ta : Nat)) (lo := 0) (hi := (s.c.teams : Int) - 1) (e_var rfl (r1.flat_any rfl)) e_int (e_sub (e_ix (d1 := s.c.d) (rd.fc C (o_name rfl)) e_int rfl) e_int) (by omega) (by omega)))) (fun z => nomatch z) fun _ G1 H1 e1 c1 => ?_
    have rd1 := (a.exx e1).rd c1.o
    refine q_whenC c1 (b := false) (b_notT (b_B (e_btw (i := (tk : Nat)) (lo := 0) (hi := (s.c.tasks.length : Int) - 1) (e_var rfl (r2.flat_any rfl)) e_int (e_sub (e_len (d := .tup (s.c.tasks.map tkD)) (e_ix (d1 := s.c.d) (rd1.fc C (o_name rfl)) e_int rfl) (congrArg some (List.length_map _))) e_int) (by omega) (by omega)))) (fun z => nomatch z) fun _ G2 H2 e2 c2 => ?_
    have a2 := (a.exx e1).exx e2
    have rd2 := a2.rd c2.o
    refine q_whenC c2 (b := false) (b_notT (b_B (e_btw (i := (tt : Nat)) (lo := (lastT s.ts : Nat)) (hi := 999) (e_var rfl (r3.flat_any rfl)) (e_lastT (rd2.fo C (o_name rfl))) e_int (by omega) (by omega)))) (fun z => nomatch z) fun _ G3 H3 e3 c3 => ?_
    have a3 := a2.exx e3
    have rd3 := a3.rd c3.o
    refine q_whenC c3 (b := false) (b_test (EvD.bl (e_eq (d1 := .int s.ts.length) (d2 := .int 200) (e_len (d := trsD s.ts) (rd3.fo C (o_name rfl)) (congrArg some (List.length_map _))) e_int rfl) (decide_eq_false (by omega)))) (fun z => nomatch z) fun _ G4 H4 e4 c4 => ?_
    have a4 := a3.exx e4
    have e04 : Ex G G4 := e1.trans (e2.trans (e3.trans e4))
    obtain ⟨vc, hi, pt⟩ := a4.ex
    obtain ⟨xs, hx, rx⟩ := pt.o
    have hxl : xs.length = s.ts.length := by rw [rx.len, List.length_map]
    have ok' := a.ok.offer h1 h2 h3 h4 h5
    refine q_appM (K := K) (d := trD (ta, tk, tt)) c4 (by simp [HA.all]) hx (a4.oo C (o_name rfl)) (e_tup3 (e_var rfl (r1.flat_any rfl)) (e_var rfl (r2.flat_any rfl)) (e_var rfl (r3.flat_any rfl))) rfl (by omega) fun v G5 H5 e5 c5 rv => ?_
    have a5 := (a4.exx e5).put_o (s := s) (xs := xs ++ [v]) (ts := s.ts ++ [(ta, tk, tt)]) ⟨ok'.oc, ok'.ot, ok'.ov, ok'.wk, ok'.wl⟩ ((rx.ex e5).snocm rv)
    obtain ⟨vc5, hi5, pt5⟩ := a5.ex
    obtain ⟨ys, hy, rys⟩ := pt5.e
    have hyl : ys.length = s.es.length := by rw [rys.len, List.length_map]
    refine q_appM (K := K) (d := evD (.offer ta tk tt)) c5 (by simp [HA.all]) hy (a5.oe C (o_name rfl)) (e_tup (a_cons e_str (a_cons (e_var rfl (r1.flat_any rfl)) (a_cons (e_var rfl (r2.flat_any rfl)) (a_one (e_var rfl (r3.flat_any rfl)))))) (by show 4 ≤ 100000; decide)) rfl (by omega) fun v' G6 H6 e6 c6 rv' => ?_
    have a6 := (a5.exx e6).put_e (xs := ys ++ [v']) (es := s.es ++ [.offer ta tk tt]) ((rys.ex e6).snocm rv')
    have rd6 := a6.rd c6.o
    refine s_retC (K := K) (d := .int s.ts.length) c6 (EvD.int (e_sub (i := ((s.ts.length + 1 : Nat) : Int)) (j := 1) (e_len (d := trsD (s.ts ++ [(ta, tk, tt)])) (rd6.fo C (o_name rfl)) (congrArg some (by rw [List.length_map, List.length_append]; rfl))) e_int) (by omega)) rfl fun v7 G7 H7 e7 c7 rv7 => ?_
    exact q v7 G7 _ H7 h rfl (e04.trans (e5.trans (e6.trans e7))) c7 (a6.exx e7) rv7
def taken (s : Hs) : D := match s.free with
  | [] => .non
  | x :: _ => prD x
def R_h_take (s : Hs) (ds : List D) (r : D) (s' : Hs) : Prop := ∃ j : Nat, ds = [.int j] ∧ s.ws[j]? = some none ∧ s.es.length < 90000 ∧ r = taken s ∧ s' = s.take j
abbrev sp_Hall_take (K : PySem.W.Frag) : Sp := spHm K R_h_take
theorem ok_Hall_take {f : Addr} {fd : FuncData} (F : Fun K "take" "Hall.take" s_Hall_take f fd) (T : Tx K mg) (d_Hall_free : Dm P w K mg base 7 "Hall" "free" P_Hall_free (sp_Hall_free K)) (d_Hall_need_judge : Dm P w K mg base 2 "Hall" "need_judge" P_Hall_need_judge (sp_Hall_need_judge K)) : FnOk P w K mg base CX0 8 f fd P_Hall_take (sp_Hall_take K) := by
  refine F.ok sc_Hall_take (fun vs H Q E h => ?_) (fun cdv A outer s H vs Q E hr h => ?_)
  · obtain ⟨G, M, h, s, ws, ds, r, s', rfl, e, ow, a, ra, ⟨j, rfl, h1, h2, rfl, rfl⟩, q⟩ := h
    first | rfl | exact congrArg (· + 1) ra.len | exact congrArg (· + 2) ra.len
  · obtain ⟨G, M, h, s, ws, ds, r, s', rfl, e, ow, a, ra, ⟨j, rfl, h1, h2, rfl, rfl⟩, q⟩ := h
    refine ⟨_, (pss_cons (ps_expr (pe_me d_Hall_need_judge (hr.mono (by decide)) (pv 0) (pa_cons (pv 1) pa_nil)))
    (pss_cons (ps_if (pt_cmpR op_notN (pe_ix (ix_seqK K rfl) (pe_fldK K rfl (pv 0) rfl) (pv 1) (fun _ _ => rfl)) pe_non (nomark _)) (pss_one ps_never) pss_nil)
    (pss_cons (ps_set (i := 2) sc_Hall_take.nd rfl (by first | exact Or.inl rfl | exact Or.inr rfl) (pe_me0 d_Hall_free (hr.mono (by decide)) (pv 0)))
    (pss_cons (ps_if (pt_cmpR (op_eqK K rfl hr.units) (pv 2) (pe_lst pa_nil) (nomark _)) (pss_one (ps_ret pe_non)) pss_nil)
    (pss_cons (ps_asg (pe_ix (ix_seqK K rfl) (pv 2) pe_int (fun _ _ => rfl)) (pg_sub (pe_fldK K rfl (pv 0) rfl) (pv 1) set_list))
    (pss_cons (ps_expr (pe_bm PySem.F.plainAttrs_list PySem.F.slot_list_append PySem.F.type_list_append mt_append (pe_fldK K rfl (pv 0) rfl) (pa_cons (pe_op (op_addK K rfl) (pe_tup (pa_cons pe_str (pa_cons (pv 1) pa_nil))) (pe_ix (ix_seqK K rfl) (pv 2) pe_int (fun _ _ => rfl))) pa_nil)))
    (pss_one (ps_ret (pe_ix (ix_seqK K rfl) (pv 2) pe_int (fun _ _ => rfl)))))))))), ?_⟩
    try dsimp only [cxOf, Cx.nox, Cx.wish]
    obtain ⟨v1, rfl, r1⟩ := ra.one
    have c0 : Chg G M H h.all G M H h.all := Chg.refl e ow
    have C := hallC T
    have hj : j < s.ws.length := (List.getElem?_eq_some_iff.mp h1).1
    refine q_dropC (K := K) (d := .non) c0 (e_needJ (o_name rfl) (a.rd ow) (e_var rfl (r1.flat_any rfl)) hj) rfl fun G1 H1 e1 c1 => ?_
    have a1 := a.exx e1
    refine q_whenC c1 (b := false) (b_test (EvD.bl (e_wkNot (w := none) (e_ix (d1 := .lst (s.ws.map wkD)) (i := (j : Nat)) ((a1.rd c1.o).fw C (o_name rfl)) (e_var rfl (r1.flat_any rfl)) (at_mapL h1))) rfl)) (fun z => nomatch z) fun _ G2 H2 e2 c2 => ?_
    have a2 := a1.exx e2
    refine q_asgLC (K := K) (ds := s.free.map prD) c2 (f_hallR (o_name rfl) (a2.rd c2.o) (fun _ _ _ _ _ => by rfl)) (tupOA_map (fun _ => rfl) _) fun v2 G3 H3 e3 c3 r3 => ?_
    have a3 := a2.exx e3
    have e03 : Ex G G3 := e1.trans (e2.trans e3)
    cases hf : s.free with
    | nil =>
      rw [hf] at r3
      refine q_whenC c3 (b := true) (b_test (EvD.bl (e_eqD (d1 := .lst []) (d2 := .lst []) (e_var rfl (r3.ex c3.o.gg)) (EvF.toD (f_lst a_nil (by decide))) rfl rfl) rfl)) (fun _ G4 H4 e4 c4 => ?_) (fun z => nomatch z)
      refine s_retC (K := K) (d := .non) c4 e_non rfl fun v5 G5 H5 e5 c5 rv5 => ?_
      have ht : taken s = .non := by unfold taken; rw [hf]
      have hs : s.take j = s := by unfold Hs.take; rw [hf]
      rw [ht, hs] at q
      exact q v5 G5 _ H5 h rfl (e03.trans (e4.trans e5)) c5 (a3.exx (e4.trans e5)) rv5
    | cons x l =>
      rw [hf] at r3
      have ht : taken s = prD x := by unfold taken; rw [hf]
      have hs : s.take j = { s with ws := s.ws.set j (some x), es := s.es ++ [.take j x.1 x.2] } := by unfold Hs.take; rw [hf]
      have okt := a.ok.take j
      rw [hs] at okt
      refine q_whenC c3 (b := false) (b_test (EvD.bl (e_eqD (d1 := .lst ((x :: l).map prD)) (d2 := .lst []) (e_var rfl (r3.ex c3.o.gg)) (EvF.toD (f_lst a_nil (by decide))) (ok_prs _) rfl) rfl)) (fun z => nomatch z) fun _ G4 H4 e4 c4 => ?_
      have a4 := a3.exx e4
      have r3 := r3.ex e4
      obtain ⟨vc, hi, pt⟩ := a4.ex
      obtain ⟨xs, hx, rx⟩ := pt.w
      have hxl : xs.length = s.ws.length := by rw [rx.len, List.length_map]
      refine q_setC (K := K) (d := prD x) c4 (by simp [HA.all]) hx (e_ix (d1 := .lst ((x :: l).map prD)) (i := ((0 : Nat) : Int)) (e_var rfl (r3.ex c4.o.gg)) e_int (at_mapL (k := 0) rfl)) rfl (a4.ow C (o_name rfl)) (e_var rfl (r1.flat_any rfl)) (by omega) fun v G5 H5 e5 c5 rv => ?_
      have a5 := (a4.exx e5).put_w (xs := xs.set j v) (ws := s.ws.set j (some x)) ⟨okt.oc, okt.ot, okt.ov, okt.wk, okt.wl⟩ (RpA.setw (w := some x) (rx.ex e5) rv)
      have r3 := r3.ex e5
      obtain ⟨vc5, hi5, pt5⟩ := a5.ex
      obtain ⟨ys, hy, rys⟩ := pt5.e
      have hyl : ys.length = s.es.length := by rw [rys.len, List.length_map]
      refine q_appM (K := K) (d := evD (.take j x.1 x.2)) c5 (by simp [HA.all]) hy (a5.oe C (o_name rfl)) (e_catA (ds := [.str wTake, .int j]) (es := [.int x.1, .int x.2]) (e_tup2 e_str (e_var rfl (r1.flat_any rfl))) (e_ix (d1 := .lst ((x :: l).map prD)) (i := ((0 : Nat) : Int)) (e_var rfl (r3.ex c5.o.gg)) e_int (at_mapL (k := 0) rfl)) (by show 2 + 2 ≤ 1000000; decide)) rfl (by omega) fun v' G6 H6 e6 c6 rv' => ?_
      have a6 := (a5.exx e6).put_e (xs := ys ++ [v']) (es := s.es ++ [.take j x.1 x.2]) ((rys.ex e6).snocm rv')
      have r3 := r3.ex e6
      refine s_retC (K := K) (d := prD x) c6 (e_ix (d1 := .lst ((x :: l).map prD)) (i := ((0 : Nat) : Int)) (e_var rfl (r3.ex c6.o.gg)) e_int (at_mapL (k := 0) rfl)) rfl fun v7 G7 H7 e7 c7 rv7 => ?_
      rw [ht, hs] at q
      exact q v7 G7 _ H7 h rfl (e03.trans (e4.trans (e5.trans (e6.trans e7)))) c7 (a6.exx e7) rv7
def R_h_tell (s : Hs) (ds : List D) (r : D) (s' : Hs) : Prop := ∃ (j : Nat) (b : Bool) (x : Nat × Nat), ds = [.int j, .bl b] ∧ s.ws[j]? = some (some x) ∧ s.es.length < 90000 ∧ r = .non ∧ s' = s.tell j x b
abbrev sp_Hall_tell (K : PySem.W.Frag) : Sp := spHm K R_h_tell
theorem ok_Hall_tell {f : Addr} {fd : FuncData} (F : Fun K "tell" "Hall.tell" s_Hall_tell f fd) (T : Tx K mg) (d_Hall_need_judge : Dm P w K mg base 2 "Hall" "need_judge" P_Hall_need_judge (sp_Hall_need_judge K)) : FnOk P w K mg base CX0 3 f fd P_Hall_tell (sp_Hall_tell K) := by
  refine F.ok sc_Hall_tell (fun vs H Q E h => ?_) (fun cdv A outer s H vs Q E hr h => ?_)
  · obtain ⟨G, M, h, s, ws, ds, r, s', rfl, e, ow, a, ra, ⟨j, b, x, rfl, h1, h2, rfl, rfl⟩, q⟩ := h
    first | rfl | exact congrArg (· + 1) ra.len | exact congrArg (· + 2) ra.len
  · obtain ⟨G, M, h, s, ws, ds, r, s', rfl, e, ow, a, ra, ⟨j, b, x, rfl, h1, h2, rfl, rfl⟩, q⟩ := h
    refine ⟨_, (pss_cons (ps_expr (pe_me d_Hall_need_judge (hr.mono (by decide)) (pv 0) (pa_cons (pv 1) pa_nil)))
    (pss_cons (ps_if (pt_cmpR op_isN (pe_ix (ix_seqK K rfl) (pe_fldK K rfl (pv 0) rfl) (pv 1) (fun _ _ => rfl)) pe_non (nomark _)) (pss_one ps_never) pss_nil)
    (pss_cons (ps_dput (hu_of hr) (pe_fldK K rfl (pv 0) rfl) (pe_ix (ix_seqK K rfl) (pe_fldK K rfl (pv 0) rfl) (pv 1) (fun _ _ => rfl)) (pv 2) rfl)
    (pss_cons (ps_expr (pe_bm PySem.F.plainAttrs_list PySem.F.slot_list_append PySem.F.type_list_append mt_append (pe_fldK K rfl (pv 0) rfl) (pa_cons (pe_tup (pa_cons pe_str (pa_cons (pv 1) (pa_cons (pv 2) pa_nil)))) pa_nil)))
    (pss_one (ps_asg pe_non (pg_sub (pe_fldK K rfl (pv 0) rfl) (pv 1) set_list))))))), ?_⟩
    try dsimp only [cxOf, Cx.nox, Cx.wish]
    obtain ⟨v1, v2, rfl, r1, r2⟩ := ra.two
    have c0 : Chg G M H h.all G M H h.all := Chg.refl e ow
    have C := hallC T
    have hj : j < s.ws.length := (List.getElem?_eq_some_iff.mp h1).1
    have okt := a.ok.tell h1 b
    have hul := vers_len a.ok.oc a.ok.ot a.ok.ov
    refine q_dropC (K := K) (d := .non) c0 (e_needJ (o_name rfl) (a.rd ow) (e_var rfl (r1.flat_any rfl)) hj) rfl fun G1 H1 e1 c1 => ?_
    have a1 := a.exx e1
    have ewk : ∀ {G M H} (a1 : HallAt K G M h s) (o : Owns M G H), EvD K (tOp (rIx K) (tFld K (tVar 0) "works") (tVar 1)) [some (.ref h.o), some v1, some v2] (over G M) (prD x) := fun a1 o => e_ix (d1 := .lst (s.ws.map wkD)) (i := (j : Nat)) ((a1.rd o).fw C (o_name rfl)) (e_var rfl (r1.flat_any rfl)) (at_mapL h1)
    refine q_whenC c1 (b := false) (b_test (EvD.bl (e_wkIs (w := some x) (ewk a1 c1.o)) rfl)) (fun z => nomatch z) fun _ G2 H2 e2 c2 => ?_
    have a2 := a1.exx e2
    obtain ⟨vc, hi, pt⟩ := a2.ex
    refine q_dputC (K := K) (d := .bl b) (d2 := prD x) (ks := natK x) c2 (by simp [HA.all]) pt.t (e_var rfl (r2.flat_any rfl)) rfl (a2.ot C (o_name rfl)) (ewk a2 c2.o) rfl (by unfold vkD; rw [List.length_map]; omega) fun G3 H3 e3 c3 => ?_
    rw [show (D.bl b).toV = V.bl b from rfl, putV_K] at c3
    have a3 := (a2.exx e3).put_t (us := putV s.us x b) ⟨okt.oc, okt.ot, okt.ov, a.ok.wk, a.ok.wl⟩
    obtain ⟨vc3, hi3, pt3⟩ := a3.ex
    obtain ⟨ys, hy, rys⟩ := pt3.e
    have hyl : ys.length = s.es.length := by rw [rys.len, List.length_map]
    refine q_appM (K := K) (d := evD (.tell j b)) c3 (by simp [HA.all]) hy (a3.oe C (o_name rfl)) (e_tup3 e_str (e_var rfl (r1.flat_any rfl)) (e_var rfl (r2.flat_any rfl))) rfl (by omega) fun v' G4 H4 e4 c4 rv' => ?_
    have a4 := (a3.exx e4).put_e (xs := ys ++ [v']) (es := s.es ++ [.tell j b]) ((rys.ex e4).snocm rv')
    obtain ⟨vc4, hi4, pt4⟩ := a4.ex
    obtain ⟨xs, hx, rx⟩ := pt4.w
    have hxl : xs.length = s.ws.length := by rw [rx.len, List.length_map]
    refine s_setC (K := K) (d := .non) c4 (by simp [HA.all]) hx e_non rfl (a4.ow C (o_name rfl)) (e_var rfl (r1.flat_any rfl)) (by omega) fun v G5 H5 e5 c5 rv => ?_
    have a5 := (a4.exx e5).put_w (xs := xs.set j v) (ws := s.ws.set j none) ⟨okt.oc, okt.ot, okt.ov, okt.wk, okt.wl⟩ (RpA.setw (w := none) (rx.ex e5) rv)
    exact q .non G5 _ H5 h rfl (e1.trans (e2.trans (e3.trans (e4.trans e5)))) c5 a5 .non
def R_h_fall (s : Hs) (ds : List D) (r : D) (s' : Hs) : Prop := ∃ j : Nat, ds = [.int j] ∧ j < s.ws.length ∧ s.es.length < 90000 ∧ r = .non ∧ s' = s.fall j
abbrev sp_Hall_fall (K : PySem.W.Frag) : Sp := spHm K R_h_fall
theorem ok_Hall_fall {f : Addr} {fd : FuncData} (F : Fun K "fall" "Hall.fall" s_Hall_fall f fd) (T : Tx K mg) (d_Hall_need_judge : Dm P w K mg base 2 "Hall" "need_judge" P_Hall_need_judge (sp_Hall_need_judge K)) : FnOk P w K mg base CX0 3 f fd P_Hall_fall (sp_Hall_fall K) := by
  refine F.ok sc_Hall_fall (fun vs H Q E h => ?_) (fun cdv A outer s H vs Q E hr h => ?_)
  · obtain ⟨G, M, h, s, ws, ds, r, s', rfl, e, ow, a, ra, ⟨j, rfl, hj, h2, rfl, rfl⟩, q⟩ := h
    first | rfl | exact congrArg (· + 1) ra.len | exact congrArg (· + 2) ra.len
  · obtain ⟨G, M, h, s, ws, ds, r, s', rfl, e, ow, a, ra, ⟨j, rfl, hj, h2, rfl, rfl⟩, q⟩ := h
    refine ⟨_, (pss_cons (ps_expr (pe_me d_Hall_need_judge (hr.mono (by decide)) (pv 0) (pa_cons (pv 1) pa_nil)))
    (pss_cons (ps_asg pe_non (pg_sub (pe_fldK K rfl (pv 0) rfl) (pv 1) set_list))
    (pss_one (ps_expr (pe_bm PySem.F.plainAttrs_list PySem.F.slot_list_append PySem.F.type_list_append mt_append (pe_fldK K rfl (pv 0) rfl) (pa_cons (pe_tup (pa_cons pe_str (pa_cons (pv 1) pa_nil))) pa_nil)))))), ?_⟩
    try dsimp only [cxOf, Cx.nox, Cx.wish]
    obtain ⟨v1, rfl, r1⟩ := ra.one
    have c0 : Chg G M H h.all G M H h.all := Chg.refl e ow
    have C := hallC T
    have okt := a.ok.fall j
    refine q_dropC (K := K) (d := .non) c0 (e_needJ (o_name rfl) (a.rd ow) (e_var rfl (r1.flat_any rfl)) hj) rfl fun G1 H1 e1 c1 => ?_
    have a1 := a.exx e1
    obtain ⟨vc4, hi4, pt4⟩ := a1.ex
    obtain ⟨xs, hx, rx⟩ := pt4.w
    have hxl : xs.length = s.ws.length := by rw [rx.len, List.length_map]
    refine q_setC (K := K) (d := .non) c1 (by simp [HA.all]) hx e_non rfl (a1.ow C (o_name rfl)) (e_var rfl (r1.flat_any rfl)) (by omega) fun v G5 H5 e5 c5 rv => ?_
    have a5 := (a1.exx e5).put_w (xs := xs.set j v) (ws := s.ws.set j none) ⟨okt.oc, okt.ot, okt.ov, okt.wk, okt.wl⟩ (RpA.setw (w := none) (rx.ex e5) rv)
    obtain ⟨vc3, hi3, pt3⟩ := a5.ex
    obtain ⟨ys, hy, rys⟩ := pt3.e
    have hyl : ys.length = s.es.length := by rw [rys.len, List.length_map]
    refine s_appM (K := K) (d := evD (.fall j)) c5 (by simp [HA.all]) hy (a5.oe C (o_name rfl)) (e_tup2 e_str (e_var rfl (r1.flat_any rfl))) rfl (by omega) fun v' G6 H6 e6 c6 rv' => ?_
    have a6 := (a5.exx e6).put_e (xs := ys ++ [v']) (es := s.es ++ [.fall j]) ((rys.ex e6).snocm rv')
    exact q .non G6 _ H6 h rfl (e1.trans (e5.trans e6)) c6 a6 .non
theorem e_offW {G : Hp} {σ : L2.St} {te tx : TE} {w : Work} {x : Nat × Nat} (h : EvD K te σ G (wkD w)) (hx : EvD K tx σ G (prD x)) : EvD K (tIf (tTest (tOp (rEqA K) te tx)) (tC .non) te) σ G (wkD (offW x w)) := by
  have ht : EvB (tTest (tOp (rEqA K) te tx)) σ G (decide (w = some x)) := b_test (EvD.bl (e_eqD (d1 := wkD w) (d2 := wkD (some x)) h hx (wk_ok _) (wk_ok _)) (wk_eqv _ _))
  unfold offW
  by_cases z : w = some x
  · rw [if_pos z]
    exact e_if ht (fun _ => e_non) fun y => absurd z (of_decide_eq_false y)
  · rw [if_neg z]
    exact e_if ht (fun y => absurd (of_decide_eq_true y) z) fun _ => h
def R_h_mend (s : Hs) (ds : List D) (r : D) (s' : Hs) : Prop := ∃ k t : Nat, ds = [.int k, .int t] ∧ k < s.c.tasks.length ∧ t < s.c.size k ∧ s.es.length < 90000 ∧ r = .non ∧ s' = s.mend k t
abbrev sp_Hall_mend (K : PySem.W.Frag) : Sp := spHm K R_h_mend
theorem ok_Hall_mend {f : Addr} {fd : FuncData} (F : Fun K "mend" "Hall.mend" s_Hall_mend f fd) (T : Tx K mg) (d_is_between : Dk P w K mg base 1 "is_between" P_is_between (sp_is_between K)) (d_trials_of : Dk P w K mg base 1 "trials_of" P_trials_of (sp_trials_of K)) : FnOk P w K mg base CX0 2 f fd P_Hall_mend (sp_Hall_mend K) := by
  refine F.ok sc_Hall_mend (fun vs H Q E h => ?_) (fun cdv A outer s H vs Q E hr h => ?_)
  · obtain ⟨G, M, h, s, ws, ds, r, s', rfl, e, ow, a, ra, ⟨tk, tr, rfl, h1, h2, h3, rfl, rfl⟩, q⟩ := h
    first | rfl | exact congrArg (· + 1) ra.len | exact congrArg (· + 2) ra.len
  · obtain ⟨G, M, h, s, ws, ds, r, s', rfl, e, ow, a, ra, ⟨tk, tr, rfl, h1, h2, h3, rfl, rfl⟩, q⟩ := h
    refine ⟨_, (pss_cons (ps_if (pt_not (pt_val (pe_fn d_is_between (hr.mono (by decide)) (by rfl) (pa_cons (pv 1) (pa_cons pe_int (pa_cons (pe_op op_sub (pe_callB (call_lenK K rfl) (by rfl) T.n_len (by decide +kernel) (pa_cons (pe_ix (ix_seqK K rfl) (pe_fldK K rfl (pv 0) rfl) pe_int (fun _ _ => rfl)) pa_nil)) pe_int) pa_nil)))))) (pss_one ps_never) pss_nil)
    (pss_cons (ps_if (pt_not (pt_val (pe_fn d_is_between (hr.mono (by decide)) (by rfl) (pa_cons (pv 2) (pa_cons pe_int (pa_cons (pe_op op_sub (pe_fn d_trials_of (hr.mono (by decide)) (by rfl) (pa_cons (pe_fldK K rfl (pv 0) rfl) (pa_cons (pv 1) pa_nil))) pe_int) pa_nil)))))) (pss_one ps_never) pss_nil)
    (pss_cons (ps_for PassesOwn.never rfl (pi_enK K rfl (by rfl) T.n_enumerate (pa_cons (pe_fldK K rfl (pv 0) rfl) pa_nil)) (pg_tup rfl (pgs_cons (pg_name (i := 3) sc_Hall_mend.nd rfl (by first | exact Or.inl rfl | exact Or.inr rfl)) (pgs_cons (pg_name (i := 4) sc_Hall_mend.nd rfl (by first | exact Or.inl rfl | exact Or.inr rfl)) pgs_nil))) (pss_one (ps_if (pt_cmpR (op_eqK K rfl hr.units) (pe_ix (ix_seqK K rfl) (pv 4) pe_int (fun _ _ => rfl)) (pv 1) (nomark _)) (pss_cons (ps_expr (pe_bmK K rfl PySem.F.plainAttrs_dict PySem.F.slot_dict_pop PySem.F.type_dict_pop (mt_popTK (hu_of hr)) (pe_fldK K rfl (pv 0) rfl) (pa_cons (pe_tup (pa_cons (pv 3) (pa_cons (pv 2) pa_nil))) (pa_cons pe_non pa_nil))))
    (pss_one (ps_fldK K rfl (pv 0) (pe_lc (own := [("work", 5)]) (g := gName 5) (tt := tYes) rfl sc_Hall_mend.nd (pi_seqK K rfl (pe_fldK K rfl (pv 0) rfl)) (blkOk_by (own := [("work", 5)]) (N := N_Hall_mend) (sc := defScope s_Hall_mend) (by decide +kernel)) (fun _ _ _ _ _ => (pg_name (i := 5) sc_Hall_mend.nd rfl (by first | exact Or.inl rfl | exact Or.inr rfl))) (fun _ _ _ _ _ => pts_nil) (fun _ _ _ _ _ => (pe_ifExp (pt_cmpR (op_eqK K rfl hr.units) (pv 5) (pe_tup (pa_cons (pv 3) (pa_cons (pv 2) pa_nil))) (nomark _)) pe_non (pv 5)))) rfl))) pss_nil)))
    (pss_one (ps_expr (pe_bm PySem.F.plainAttrs_list PySem.F.slot_list_append PySem.F.type_list_append mt_append (pe_fldK K rfl (pv 0) rfl) (pa_cons (pe_tup (pa_cons pe_str (pa_cons (pv 1) (pa_cons (pv 2) pa_nil)))) pa_nil))))))), ?_⟩
    try dsimp only [cxOf, Cx.nox, Cx.wish]
    obtain ⟨v1, v2, rfl, r1, r2⟩ := ra.two
    have c0 : Chg G M H h.all G M H h.all := Chg.refl e ow
    have C := hallC T
    have htl := a.ok.ot.len
    have hwl := a.ok.wl
    refine q_whenC c0 (b := false) (b_notT (b_B (e_btw (i := (tk : Nat)) (lo := 0) (hi := (s.c.tasks.length : Int) - 1) (e_var rfl (r1.flat_any rfl)) e_int (e_sub (e_len (d := .tup (s.c.tasks.map tkD)) (e_ix (d1 := s.c.d) ((a.rd ow).fc C (o_name rfl)) e_int rfl) (congrArg some (List.length_map _))) e_int) (by omega) (by omega)))) (fun z => nomatch z) fun _ G1 H1 e1 c1 => ?_
    have a1 := a.exx e1
    refine q_whenC c1 (b := false) (b_notT (b_B (e_btw (i := (tr : Nat)) (lo := 0) (hi := (s.c.size tk : Nat) - 1) (e_var rfl (r2.flat_any rfl)) e_int (e_sub (e_call (a_cons ((a1.rd c1.o).fc C (o_name rfl)) (a_one (e_var rfl (r1.flat_any rfl)))) ⟨s.c, tk, rfl, a.ok.oc, h1, rfl⟩) e_int) (by omega) (by omega)))) (fun z => nomatch z) fun _ G2 H2 e2 c2 => ?_
    have a2 := a1.exx e2
    obtain ⟨vc, hi, pt⟩ := a2.ex
    obtain ⟨xs, hx, rx⟩ := pt.o
    refine q_forEM (K := K) (js := [3, 4]) (Ed := fun i => [.int i, nth (s.ts.map trD) i]) c2 (a2.oo C (o_name rfl)) hx rx (fun i hi => g_two)
      (fun i σ' G' M' H' as' => (∃ lw, HallAt K G' M' { h with lw := lw } (s.mendTo tk tr i) ∧ lw ∈ as' ∧ ∀ b ∈ h.all, b ∈ as') ∧ ∃ w3 w4 w5, σ' = [some (.ref h.o), some v1, some v2, w3, w4, w5])
      (fun G3 H3 e3 c3 => ⟨⟨h.lw, a2.exx e3, by simp [HA.all], fun b hb => hb⟩, _, _, _, rfl⟩) ?_ ?_
    · rintro i hi σ' G' M' H' as' e' c' hm' pv G3 H3 us s3 ru
      obtain ⟨⟨lw, a3, hlw, hall⟩, w3, w4, w5, rfl⟩ := pv G3 H3 s3
      obtain ⟨y3, y4, rfl, ry3, ry4⟩ := ru.two
      have hi : i < s.ts.length := by rw [List.length_map] at hi; exact hi
      rw [nth_map (try_at hi)] at ry4
      cases ry3
      have c3 := c'.then s3
      have g3 := c3.o.gg
      refine s_ifC c3 (b := decide ((tryAt s.ts i).2.1 = tk)) (b_test (EvD.bl (e_eq (d1 := .int (tryAt s.ts i).2.1) (d2 := .int tk) (e_ix (d1 := trD (tryAt s.ts i)) (e_var rfl (ry4.ex g3)) e_int rfl) (e_var rfl (r1.flat_any rfl)) rfl) (dec_iff (by omega)))) (fun hb G4 H4 e4 c4 => ?_) (fun hb G4 H4 e4 c4 => ?_)
      · have hb := of_decide_eq_true hb
        have a4 := a3.exx e4
        have okn := a.ok.mendTo tk tr (i + 1)
        have hmu : mendU s.ts tk tr (i + 1) s.us = dropV (mendU s.ts tk tr i s.us) (i, tr) := if_pos hb
        have hmw : mendW s.ts tk tr (i + 1) s.ws = (mendW s.ts tk tr i s.ws).map (offW (i, tr)) := if_pos hb
        obtain ⟨vc4, hi4, pt4⟩ := a4.ex
        refine q_popC (K := K) (ks := natK (i, tr)) (d2 := prD (i, tr)) c4 (hall _ (by simp [HA.all])) pt4.t (a4.ot C (o_name rfl)) (e_tup2 (e_var rfl (.int _)) (e_var rfl (r2.flat_any rfl))) rfl fun G5 H5 e5 c5 => ?_
        rw [dropV_K] at c5
        have a5 := (a4.exx e5).put_t (us := dropV (mendU s.ts tk tr i s.us) (i, tr)) ⟨okn.oc, okn.ot, by have := okn.ov; rw [show (s.mendTo tk tr (i + 1)).us = dropV (mendU s.ts tk tr i s.us) (i, tr) from hmu] at this; exact this, a3.ok.wk, a3.ok.wl⟩
        obtain ⟨vc5, hi5, pt5⟩ := a5.ex
        have rd5 := a5.rd c5.o
        have hwl' : (mendW s.ts tk tr i s.ws).length = s.ws.length := mendW_len _ _ _ _ _
        refine s_fldC (K := K) (ds := ((mendW s.ts tk tr i s.ws).map (offW (i, tr))).map wkD) c5 (hall _ (by simp [HA.all])) hi5 (EvF.eq (f_lcm (xs := mendW s.ts tk tr i s.ws) (Y := nth ((mendW s.ts tk tr i s.ws).map wkD)) (js := [5]) (fun _ w => [wkD w]) (fun _ => true) (fun w => wkD (offW (i, tr) w))
          (i_seqL' (List.length_map _) (rd5.fw C (o_name rfl))) (fun i x hx => by rw [nth_map hx]; exact g_name) (by omega) (fun _ _ _ => rfl) (fun us _ => wipe_set (by decide)) (fun _ _ _ _ _ _ _ => b_yes) (fun j x hx _ G6 e6 us ru => ?_)) ?_) (tupOA_map wkD_tupO _) (o_name rfl) C.k C.w (by show 5 < 1000; decide) fun p ys G6 H6 e6 p1 p2 p3 c6 rys => ?_
        · obtain ⟨y, rfl, ry⟩ := ru.one
          exact e_offW (x := (i, tr)) (e_var rfl ry) (e_tup2 (e_var rfl (.int _)) (e_var rfl (r2.flat_any rfl)))
        · rw [List.filter_eq_self.mpr (fun _ _ => rfl), List.map_map]; rfl
        have a6 := (a5.exx e6).new_w (xs := ys) (ws := (mendW s.ts tk tr i s.ws).map (offW (i, tr))) ⟨okn.oc, okn.ot, a5.ok.ov, by have := okn.wk; rw [show (s.mendTo tk tr (i + 1)).ws = (mendW s.ts tk tr i s.ws).map (offW (i, tr)) from hmw] at this; exact this, by rw [List.length_map, hwl']; exact hwl⟩ p1 rys hi5
        have es : (s.mendTo tk tr (i + 1)) = { s with us := dropV (mendU s.ts tk tr i s.us) (i, tr), ws := (mendW s.ts tk tr i s.ws).map (offW (i, tr)) } := by
          unfold Hs.mendTo
          rw [hmu, hmw]
        have hml : M' h.lo = some (.lst xs) := hm'
        have n6 := a6.ne
        refine ⟨G6, _, _, e'.trans (s3.g.trans (e4.trans (e5.trans e6))), c6, ?_, fun G7 H7 s7 => ⟨⟨p, ?_, List.mem_cons_self, fun b hb => List.mem_cons_of_mem _ (hall b hb)⟩, _, _, _, rfl⟩⟩
        · obtain ⟨n1, n2, n3⟩ := pt4.ot
          have hn : h.lo ≠ p := fun z => by
            have := pt5.not_in (b := p) p1
            exact this.1 z.symm
          rw [upd_ne (fun z => n6 (by rw [← z]; simp)), upd_ne hn, upd_ne n1]
          exact hml
        · rw [es]
          exact a6.exx s7.g
      · have hb := of_decide_eq_false hb
        have es : s.mendTo tk tr (i + 1) = s.mendTo tk tr i := by
          unfold Hs.mendTo
          rw [show mendU s.ts tk tr (i + 1) s.us = mendU s.ts tk tr i s.us from if_neg hb, show mendW s.ts tk tr (i + 1) s.ws = mendW s.ts tk tr i s.ws from if_neg hb]
        exact ⟨G4, _, _, e'.trans (s3.g.trans e4), c4, hm', fun G7 H7 s7 => ⟨⟨lw, by rw [es]; exact (a3.exx e4).exx s7.g, hlw, hall⟩, _, _, _, rfl⟩⟩
    · rintro σ' G' M' H' as' e' c' hm' ⟨⟨lw, a3, hlw, hall⟩, w3, w4, w5, rfl⟩
      rw [List.length_map] at a3
      obtain ⟨vc3, hi3, pt3⟩ := a3.ex
      obtain ⟨ys, hy, rys⟩ := pt3.e
      have hyl : ys.length = s.es.length := by rw [rys.len, List.length_map]; rfl
      refine s_appM (K := K) (d := evD (.mend tk tr)) c' (hall _ (by simp [HA.all])) hy (a3.oe C (o_name rfl)) (e_tup3 e_str (e_var rfl (r1.flat_any rfl)) (e_var rfl (r2.flat_any rfl))) rfl (by omega) fun v' G6 H6 e6 c6 rv' => ?_
      have a6 := (a3.exx e6).put_e (xs := ys ++ [v']) (es := s.es ++ [.mend tk tr]) ((rys.ex e6).snocm rv')
      refine q .non G6 _ H6 { h with lw := lw } rfl (e1.trans (e2.trans (e'.trans e6))) (c6.less fun b hb => ?_) a6 .non
      unfold HA.all at hb
      simp only [List.mem_cons, List.not_mem_nil, or_false] at hb
      rcases hb with rfl | rfl | rfl | rfl | rfl
      · exact hall _ (by simp [HA.all])
      · exact hall _ (by simp [HA.all])
      · exact hall _ (by simp [HA.all])
      · exact hlw
      · exact hall _ (by simp [HA.all])

end

section
variable [Tbs] {P : Program} {w : World} {K : PySem.W.Frag} {mg : Str → Option Value} {base : Heap}
/-! ### a hall is made -/
def hs0 (c : Con) (n : Nat) : Hs := ⟨c, [], [], List.replicate n none, []⟩
theorem hs0_ok {c : Con} {n : Nat} (oc : c.Ok) (h : 1 ≤ n ∧ n ≤ 5) : (hs0 c n).Ok := ⟨oc, ⟨Nat.zero_le _, (fun _ h => nomatch h), .nil⟩, ⟨(fun _ h => nomatch h), .nil⟩, fun x hx => (by
  have := (List.mem_replicate.mp hx).2
  cases this), by show 1 ≤ (List.replicate n none).length ∧ (List.replicate n none).length ≤ 5; rw [List.length_replicate]; exact h⟩
def sp_Hall_init (K : PySem.W.Frag) : Sp := fun vs H Q _ => ∃ G M H0 x dx us c n, vs = .ref x :: us ∧ H = upd (upd H0 dx (.own x)) x (.ins (cA K "Hall") dx []) ∧ H0 x = none ∧ H0 dx = none ∧ dx ≠ x ∧ Ex G H0 ∧ Owns M G H0 ∧ RpA K G us [c.d, .int (n : Nat)] ∧ c.Ok ∧ 1 ≤ n ∧ n ≤ 5 ∧
  ∀ G' M' H' (h : HA), h.o = x → Ex G G' → Chg G M H0 [] G' M' H' h.all → HallAt K G' M' h (hs0 c n) → Q .non H'
theorem hv_Hall_init {vs : List V} {H : Hp} {Q : VK} {E : XK} (h : sp_Hall_init K vs H Q E) : ∃ o v1 v2, vs = [.ref o, v1, v2] := by
  obtain ⟨G, M, H0, x, dx, us, c, n, rfl, _, _, _, _, _, _, ra, _⟩ := h
  obtain ⟨v1, v2, rfl, _⟩ := ra.two
  exact ⟨x, v1, v2, rfl⟩
theorem rep_flat {α : Type} (n : Nat) (x : α) : (List.replicate n [x]).flatten = List.replicate n x := by
  induction n with
  | zero => rfl
  | succ n ih => rw [List.replicate_succ, List.flatten_cons, ih]; rfl
theorem ok_Hall_init {f : Addr} {fd : FuncData} (F : Fun K "__init__" "Hall.__init__" s_Hall_init f fd) (T : Tx K mg) (d_is_between : Dk P w K mg base 1 "is_between" P_is_between (sp_is_between K)) (d_need_contest : Dk P w K mg base 4 "need_contest" P_need_contest (sp_need_contest K)) : FnOk P w K mg base CX0 5 f fd P_Hall_init (sp_Hall_init K) := by
  refine F.ok sc_Hall_init (fun vs H Q E h => ?_) (fun cdv A outer s H vs Q E hr h => ?_)
  · obtain ⟨o, v1, v2, rfl⟩ := hv_Hall_init h
    first | rfl | exact congrArg (· + 1) ra.len | exact congrArg (· + 2) ra.len
  · obtain ⟨o, v1, v2, rfl⟩ := hv_Hall_init h
    refine ⟨_, (pss_cons (ps_expr (pe_fn d_need_contest (hr.mono (by decide)) (by rfl) (pa_cons (pv 1) pa_nil)))
    (pss_cons (ps_if (pt_not (pt_val (pe_fn d_is_between (hr.mono (by decide)) (by rfl) (pa_cons (pv 2) (pa_cons pe_int (pa_cons (pe_gI rfl T.c_MOST_JUDGES) pa_nil)))))) (pss_one ps_never) pss_nil)
    (pss_cons (ps_fldK K rfl (pv 0) (pv 1) rfl)
    (pss_cons (ps_fldK K rfl (pv 0) (pe_lst pa_nil) rfl)
    (pss_cons (ps_fldK K rfl (pv 0) pe_dnewT rfl)
    (pss_cons (ps_fldK K rfl (pv 0) (pe_op op_mulA (pe_lst (pa_cons pe_non pa_nil)) (pv 2)) rfl)
    (pss_one (ps_fldK K rfl (pv 0) (pe_lst pa_nil) rfl)))))))), ?_⟩
    try dsimp only [cxOf, Cx.nox, Cx.wish]
    obtain ⟨G, M, H0, x, dx, us, c, n, ev, eH, hx, hdx, ne, e, ow, ra, oc, hn1, hn2, q⟩ := h
    cases ev
    obtain ⟨_, _, eu, r1, r2⟩ := ra.two
    cases eu
    subst eH
    have C := hallC T
    have c0 : Chg G M H0 [] G M H0 [] := Chg.refl e ow
    have c1 := c0.then (Step.own (o := .own o) e hdx)
    have hx1 : upd H0 dx (.own o) o = none := by rw [upd_ne (Ne.symm ne)]; exact hx
    have c2 := c1.new (w := .ins (cA K "Hall") dx []) hx1
    have hm2 : upd M o (.ins (cA K "Hall") dx []) o = some (.ins (cA K "Hall") dx []) := upd_same
    generalize upd M o (.ins (cA K "Hall") dx []) = M2 at c2 hm2
    generalize upd (upd H0 dx (.own o)) o (.ins (cA K "Hall") dx []) = H2 at c2
    refine q_dropC (K := K) (d := .non) c2 (e_call (a_one (e_var rfl (r1.ex c2.o.gg))) ⟨c, rfl, oc, rfl⟩) rfl fun G3 H3 e3 c3 => ?_
    have r1 := r1.ex e3
    refine q_whenC c3 (b := false) (b_notT (b_B (e_btw (i := (n : Nat)) (lo := 1) (hi := 5) (e_var rfl (r2.flat_any rfl)) e_int e_int (by omega) (by omega)))) (fun z => nomatch z) fun _ G4 H4 e4 c4 => ?_
    have r1 := r1.ex e4
    refine q_fldV (K := K) (d := c.d) c4 List.mem_cons_self hm2 (e_var rfl (r1.ex c4.o.gg)) (conT c) (o_name rfl) C.k C.c (by decide) fun vc G5 H5 e5 c5 rc => ?_
    have hm5 : upd M2 o (.ins (cA K "Hall") dx (putF "contest" vc [])) o = some (.ins (cA K "Hall") dx (putF "contest" vc [])) := upd_same
    generalize upd M2 o (.ins (cA K "Hall") dx (putF "contest" vc [])) = M5 at c5 hm5
    refine q_fldC (K := K) (ds := []) c5 List.mem_cons_self hm5 (f_lst a_nil (by decide)) rfl (o_name rfl) C.k C.o (by show 1 < 1000; decide) fun lo xo G6 H6 e6 lo1 lo2 lo3 c6 ro => ?_
    have hm6 : upd (upd M5 lo (.lst xo)) o (.ins (cA K "Hall") dx (putF "offered" (.ref lo) (putF "contest" vc []))) o = some (.ins (cA K "Hall") dx (putF "offered" (.ref lo) (putF "contest" vc []))) := upd_same
    have ho6 : upd (upd M5 lo (.lst xo)) o (.ins (cA K "Hall") dx (putF "offered" (.ref lo) (putF "contest" vc []))) lo = some (.lst xo) := by rw [upd_ne lo3, upd_same]
    generalize upd (upd M5 lo (.lst xo)) o (.ins (cA K "Hall") dx (putF "offered" (.ref lo) (putF "contest" vc []))) = M6 at c6 hm6 ho6
    refine q_fldT (K := K) c6 (by simp) hm6 rfl C.k C.t (by show 2 < 1000; decide) fun lt H7 lt1 lt2 lt3 c7 => ?_
    have lto : lt ≠ lo := fun z => by rw [z, ho6] at lt1; cases lt1
    have hm7 : upd (upd M6 lt (.dT [])) o (.ins (cA K "Hall") dx (putF "table" (.ref lt) (putF "offered" (.ref lo) (putF "contest" vc [])))) o = some (.ins (cA K "Hall") dx (putF "table" (.ref lt) (putF "offered" (.ref lo) (putF "contest" vc [])))) := upd_same
    have ho7 : upd (upd M6 lt (.dT [])) o (.ins (cA K "Hall") dx (putF "table" (.ref lt) (putF "offered" (.ref lo) (putF "contest" vc [])))) lo = some (.lst xo) := by rw [upd_ne lo3, upd_ne (Ne.symm lto)]; exact ho6
    have ht7 : upd (upd M6 lt (.dT [])) o (.ins (cA K "Hall") dx (putF "table" (.ref lt) (putF "offered" (.ref lo) (putF "contest" vc [])))) lt = some (.dT []) := by rw [upd_ne lt3, upd_same]
    generalize upd (upd M6 lt (.dT [])) o (.ins (cA K "Hall") dx (putF "table" (.ref lt) (putF "offered" (.ref lo) (putF "contest" vc [])))) = M7 at c7 hm7 ho7 ht7
    refine q_fldC (K := K) (ds := (List.replicate n none).map wkD) c7 (by simp) hm7 (EvF.eq (f_rep (n := n) (ds := [.non]) (EvF.toD (f_lst (a_one e_non) (by show 1 ≤ 100000; decide))) (e_var rfl (r2.flat_any rfl)) (by show 1 * n ≤ 1000000; omega) (by omega)) (by rw [rep_flat, List.map_replicate]; rfl)) (tupOA_map wkD_tupO _) (o_name rfl) C.k C.w (by show 3 < 1000; decide) fun lw xw G8 H8 e8 lw1 lw2 lw3 c8 rw' => ?_
    have hm8 : upd (upd M7 lw (.lst xw)) o (.ins (cA K "Hall") dx (putF "works" (.ref lw) (putF "table" (.ref lt) (putF "offered" (.ref lo) (putF "contest" vc []))))) o = some (.ins (cA K "Hall") dx (putF "works" (.ref lw) (putF "table" (.ref lt) (putF "offered" (.ref lo) (putF "contest" vc []))))) := upd_same
    have lwo : lw ≠ lo := fun z => by rw [z, ho7] at lw1; cases lw1
    have lwt : lw ≠ lt := fun z => by rw [z, ht7] at lw1; cases lw1
    have ho8 : upd (upd M7 lw (.lst xw)) o (.ins (cA K "Hall") dx (putF "works" (.ref lw) (putF "table" (.ref lt) (putF "offered" (.ref lo) (putF "contest" vc []))))) lo = some (.lst xo) := by rw [upd_ne lo3, upd_ne (Ne.symm lwo)]; exact ho7
    have ht8 : upd (upd M7 lw (.lst xw)) o (.ins (cA K "Hall") dx (putF "works" (.ref lw) (putF "table" (.ref lt) (putF "offered" (.ref lo) (putF "contest" vc []))))) lt = some (.dT []) := by rw [upd_ne lt3, upd_ne (Ne.symm lwt)]; exact ht7
    have hw8 : upd (upd M7 lw (.lst xw)) o (.ins (cA K "Hall") dx (putF "works" (.ref lw) (putF "table" (.ref lt) (putF "offered" (.ref lo) (putF "contest" vc []))))) lw = some (.lst xw) := by rw [upd_ne lw3, upd_same]
    generalize upd (upd M7 lw (.lst xw)) o (.ins (cA K "Hall") dx (putF "works" (.ref lw) (putF "table" (.ref lt) (putF "offered" (.ref lo) (putF "contest" vc []))))) = M8 at c8 hm8 ho8 ht8 hw8
    refine s_fldC (K := K) (ds := []) c8 (by simp) hm8 (f_lst a_nil (by decide)) rfl (o_name rfl) C.k C.e (by show 4 < 1000; decide) fun le xe G9 H9 e9 le1 le2 le3 c9 re => ?_
    have leo : le ≠ lo := fun z => by rw [z, ho8] at le1; cases le1
    have let' : le ≠ lt := fun z => by rw [z, ht8] at le1; cases le1
    have lew : le ≠ lw := fun z => by rw [z, hw8] at le1; cases le1
    refine q G9 _ H9 ⟨o, dx, lo, lt, lw, le⟩ rfl (e3.trans (e4.trans (e5.trans (e6.trans (e8.trans e9))))) (c9.less fun b hb => ?_) ⟨hs0_ok oc ⟨hn1, hn2⟩, vc, upd_same, rc.ex (e6.trans (e8.trans e9)), ⟨xo, ?_, ro.ex (e8.trans e9)⟩, ?_, ⟨xw, ?_, rw'.ex e9⟩, ⟨xe, ?_, re⟩, Ne.symm lwo, Ne.symm leo, Ne.symm lew⟩
    · unfold HA.all at hb
      simp only [List.mem_cons, List.not_mem_nil, or_false] at hb ⊢
      rcases hb with h | h | h | h | h
      · exact .inr (.inr (.inr (.inr h)))
      · exact .inr (.inr (.inr (.inl h)))
      · exact .inr (.inr (.inl h))
      · exact .inr (.inl h)
      · exact .inl h
    · rw [upd_ne lo3, upd_ne (Ne.symm leo)]; exact ho8
    · rw [upd_ne lt3, upd_ne (Ne.symm let')]; exact ht8
    · rw [upd_ne lw3, upd_ne (Ne.symm lew)]; exact hw8
    · rw [upd_ne le3, upd_same]

end

section
variable [Tbs] {P : Program} {w : World} {K : PySem.W.Frag} {mg : Str → Option Value} {base : Heap}
/-! ### what a log tells: a hall played again -/
def Hs.app (s : Hs) : Evn → Hs
  | .offer a k t => s.offer a k t
  | .take j _ _ => s.take j
  | .tell j b => match s.ws.getD j none with
    | some x => s.tell j x b
    | none => s
  | .fall j => s.fall j
  | .mend k t => s.mend k t
def Can (s : Hs) : Evn → Prop
  | .offer a k t => a < s.c.teams ∧ k < s.c.tasks.length ∧ lastT s.ts ≤ t ∧ t ≤ 999 ∧ s.ts.length < 200
  | .take j n t => s.ws[j]? = some none ∧ ∃ r, s.free = (n, t) :: r
  | .tell j _ => ∃ x, s.ws[j]? = some (some x)
  | .fall j => j < s.ws.length
  | .mend k t => k < s.c.tasks.length ∧ t < s.c.size k
def Hs.play (s : Hs) (es : List Evn) : Hs := es.foldl Hs.app s
theorem app_tell {s : Hs} {j : Nat} {x : Nat × Nat} (b : Bool) (h : s.ws[j]? = some (some x)) : s.app (.tell j b) = s.tell j x b := by
  show (match s.ws.getD j none with | some x => s.tell j x b | none => s) = _
  rw [List.getD_eq_getElem?_getD, h]
  rfl
theorem app_c (s : Hs) (e : Evn) : (s.app e).c = s.c := by
  cases e with
  | offer a k t => rfl
  | take j n t =>
    show (s.take j).c = s.c
    unfold Hs.take
    split <;> rfl
  | tell j b =>
    show (match s.ws.getD j none with | some x => s.tell j x b | none => s).c = s.c
    split <;> rfl
  | fall j => rfl
  | mend k t => rfl
theorem app_es {s : Hs} {e : Evn} (h : Can s e) : (s.app e).es = s.es ++ [e] := by
  cases e with
  | offer a k t => rfl
  | take j n t =>
    obtain ⟨_, r, hr⟩ := h
    show (s.take j).es = _
    unfold Hs.take
    rw [hr]
  | tell j b =>
    obtain ⟨x, hx⟩ := h
    rw [app_tell b hx]
    rfl
  | fall j => rfl
  | mend k t => rfl
theorem play_snoc (s : Hs) (es : List Evn) (e : Evn) : s.play (es ++ [e]) = (s.play es).app e := by
  unfold Hs.play
  rw [List.foldl_append]
  rfl
theorem play_c (s : Hs) (es : List Evn) : (s.play es).c = s.c := by
  unfold Hs.play
  induction es generalizing s with
  | nil => rfl
  | cons e es ih => rw [List.foldl_cons, ih, app_c]
/-- n judges; what stands is what the log tells -/
structure Runs (n : Nat) (s : Hs) : Prop where
  eq : s = (hs0 s.c n).play s.es
  can : ∀ i e, s.es[i]? = some e → Can ((hs0 s.c n).play (s.es.take i)) e
theorem runs_0 (c : Con) (n : Nat) : Runs n (hs0 c n) := ⟨rfl, fun i e h => by cases h⟩
theorem Runs.app {n : Nat} {s : Hs} {e : Evn} (r : Runs n s) (h : Can s e) : Runs n (s.app e) := by
  have h1 := app_es h
  have h2 := app_c s e
  refine ⟨?_, fun i x hx => ?_⟩
  · rw [h1, h2, play_snoc, ← r.eq]
  · rw [h1] at hx
    rw [h1, h2]
    by_cases hi : i < s.es.length
    · rw [List.getElem?_append_left hi] at hx
      rw [List.take_append_of_le_length (Nat.le_of_lt hi)]
      exact r.can i x hx
    · have hi' : i = s.es.length := by
        have := (List.getElem?_eq_some_iff.mp hx).1
        rw [List.length_append] at this
        have : i < s.es.length + 1 := this
        omega
      subst hi'
      rw [List.getElem?_append_right (Nat.le_refl _), Nat.sub_self] at hx
      have e1 : e = x := Option.some.inj hx
      rw [List.take_append_of_le_length (Nat.le_refl _), List.take_length, ← r.eq, ← e1]
      exact h
theorem take_snE {α : Type} {xs : List α} {i : Nat} {x : α} (h : xs[i]? = some x) : xs.take (i + 1) = xs.take i ++ [x] := by
  rw [List.take_succ, h]
  rfl
theorem Runs.step {n : Nat} {s : Hs} (r : Runs n s) {i : Nat} {e : Evn} (h : s.es[i]? = some e) : (hs0 s.c n).play (s.es.take (i + 1)) = ((hs0 s.c n).play (s.es.take i)).app e := by
  rw [take_snE h, play_snoc]
theorem Runs.es {n : Nat} {s : Hs} (r : Runs n s) : ∀ {i : Nat}, i ≤ s.es.length → ((hs0 s.c n).play (s.es.take i)).es = s.es.take i
  | 0, _ => by rw [List.take_zero]; rfl
  | i + 1, h => by
    have he : s.es[i]? = some s.es[i] := List.getElem?_eq_getElem (by omega)
    rw [r.step he, app_es (r.can i _ he), r.es (by omega), take_snE he]
/-- at most one event -/
def Evt (s s' : Hs) : Prop := s' = s ∨ ∃ e, Can s e ∧ s' = s.app e
theorem Runs.evt {n : Nat} {s s' : Hs} (r : Runs n s) (h : Evt s s') : Runs n s' := by
  rcases h with rfl | ⟨e, hc, rfl⟩
  · exact r
  · exact r.app hc
theorem evt_take {s : Hs} {j : Nat} (h : s.ws[j]? = some none) : Evt s (s.take j) := by
  cases q : s.free with
  | nil =>
    refine .inl ?_
    unfold Hs.take
    rw [q]
  | cons x r => exact .inr ⟨.take j x.1 x.2, ⟨h, r, q⟩, rfl⟩
theorem evt_tell {s : Hs} {j : Nat} {x : Nat × Nat} (b : Bool) (h : s.ws[j]? = some (some x)) : Evt s (s.tell j x b) := .inr ⟨.tell j b, ⟨x, h⟩, (app_tell b h).symm⟩

end

section
variable [Tbs] {P : Program} {w : World} {K : PySem.W.Frag} {mg : Str → Option Value} {base : Heap}

def R_is_whole (ds : List D) (r : D) : Prop := ∃ ss : List Sta, ds = [.lst (ss.map stD)] ∧ ss.length ≤ 100000 ∧ r = .bl (ss.all fun s => decide (s = .passed))
abbrev sp__law_is_whole (K : PySem.W.Frag) : Sp := spP K R_is_whole
theorem whole_nil : ∀ ss : List Sta, (((ss.filter fun s => !decide (s = .passed)).map stD).isEmpty) = ss.all fun s => decide (s = .passed)
  | [] => rfl
  | s :: ss => by
    have ih := whole_nil ss
    cases s
    · exact ih
    · rfl
    · rfl
end

section
variable [Tbs] {P : Program} {w : World} {K : PySem.W.Frag} {mg : Str → Option Value} {base : Heap}

def solv (c : Con) (ts : List Try) (tb : Nat → Nat → Option Bool) (i a b : Nat) : Bool := (List.range i).any fun j => isOf a b c.fin (tryAt ts j) && decide (tSt c ts tb j = .passed)
def skipsM (c : Con) (ts : List Try) (tb : Nat → Nat → Option Bool) (n : Nat) : Bool :=
  decide (c.fin ≤ (tryAt ts n).2.2) || (decide (c.rule = sFirst) && (decide (Sta.failed ∈ gSts (gsOf c ts n) (tb n)) || solv c ts tb n (tryAt ts n).1 (tryAt ts n).2.1))
theorem nums_any {ts : List Try} {a b f n : Nat} (hn : n ≤ ts.length) (q : Nat → Bool) : (((numsOf ts a b f).filter fun k => decide (k < n)).any q) = (List.range n).any fun j => isOf a b f (tryAt ts j) && q j := by
  rw [Bool.eq_iff_iff, List.any_eq_true, List.any_eq_true]
  unfold numsOf
  constructor
  · rintro ⟨x, hx, hq⟩
    obtain ⟨h1, h2⟩ := List.mem_filter.mp hx
    obtain ⟨h3, h4⟩ := List.mem_filter.mp h1
    exact ⟨x, List.mem_range.mpr (of_decide_eq_true h2), by rw [h4, hq]; rfl⟩
  · rintro ⟨x, hx, hq⟩
    obtain ⟨h1, h2⟩ := (Bool.and_eq_true _ _).mp hq
    have hx := List.mem_range.mp hx
    exact ⟨x, List.mem_filter.mpr ⟨List.mem_filter.mpr ⟨List.mem_range.mpr (by omega), h1⟩, decide_eq_true hx⟩, h2⟩
theorem over_skips {c : Con} {ts : List Try} {tb : Nat → Nat → Option Bool} {n : Nat} (hn : n ≤ ts.length) : isOver c ts tb n = skipsM c ts tb n := by
  unfold isOver skipsM solv
  have h : decide (tSt c ts tb n = .failed) = decide (Sta.failed ∈ gSts (gsOf c ts n) (tb n)) := dec_iff (try_failed _)
  rw [nums_any hn, h]
theorem solv_succ (c : Con) (ts : List Try) (tb : Nat → Nat → Option Bool) (i a b : Nat) : solv c ts tb (i + 1) a b = (solv c ts tb i a b || (isOf a b c.fin (tryAt ts i) && decide (tSt c ts tb i = .passed))) := by
  unfold solv
  rw [List.range_succ, List.any_append, List.any_cons, List.any_nil, Bool.or_false]
def openK (gs : List (Nat × Nat)) (f : Nat → Option Bool) (g k : Nat) : List Nat := if gSt gs f g = .failed then [] else ((List.range k).filter fun j => (f (pre gs g + j)).isNone).map fun j => pre gs g + j
def fnd (sk : Bool) (gs : List (Nat × Nat)) (f : Nat → Option Bool) (g k : Nat) : List Nat := if sk = true then [] else openTo gs f g ++ openK gs f g k
theorem openK_zero (gs : List (Nat × Nat)) (f : Nat → Option Bool) (g : Nat) : openK gs f g 0 = [] := by
  unfold openK
  split <;> rfl
theorem fnd_next (sk : Bool) (gs : List (Nat × Nat)) (f : Nat → Option Bool) (g : Nat) : fnd sk gs f g (grp gs g).1 = fnd sk gs f (g + 1) 0 := by
  unfold fnd
  rw [openK_zero, openTo_succ, List.append_nil]
  rfl
theorem fnd_len {sk : Bool} {gs : List (Nat × Nat)} {f : Nat → Option Bool} {g k : Nat} (h : g ≤ gs.length) : (fnd sk gs f g k).length ≤ pre gs g + k := by
  unfold fnd
  split
  · exact Nat.zero_le _
  · rw [List.length_append]
    have h1 := openTo_len (f := f) h
    have h2 : (openK gs f g k).length ≤ k := by
      unfold openK
      split
      · exact Nat.zero_le _
      · rw [List.length_map]
        have := List.length_filter_le (fun j => (f (pre gs g + j)).isNone) (List.range k)
        rw [List.length_range] at this
        exact this
    omega
theorem fnd_yes {sk : Bool} {gs : List (Nat × Nat)} {f : Nat → Option Bool} {g k : Nat} (h : (!sk && (!decide (gSt gs f g = .failed) && (f (pre gs g + k)).isNone)) = true) : fnd sk gs f g (k + 1) = fnd sk gs f g k ++ [pre gs g + k] := by
  simp only [Bool.and_eq_true, Bool.not_eq_true', decide_eq_false_iff_not] at h
  obtain ⟨h1, h2, h3⟩ := h
  subst h1
  unfold fnd openK
  rw [if_neg Bool.false_ne_true, if_neg Bool.false_ne_true, if_neg h2, if_neg h2, List.range_succ, List.filter_append, List.map_append, List.append_assoc, List.filter_cons, if_pos h3]
  rfl
theorem fnd_no {sk : Bool} {gs : List (Nat × Nat)} {f : Nat → Option Bool} {g k : Nat} (h : (!sk && (!decide (gSt gs f g = .failed) && (f (pre gs g + k)).isNone)) = false) : fnd sk gs f g (k + 1) = fnd sk gs f g k := by
  unfold fnd openK
  by_cases h1 : sk = true
  · rw [if_pos h1, if_pos h1]
  by_cases h2 : gSt gs f g = .failed
  · rw [if_pos h2, if_pos h2]
  rw [if_neg h1, if_neg h1, if_neg h2, if_neg h2, List.range_succ, List.filter_append, List.filter_cons, if_neg (fun h3 => by
    have h1 : sk = false := by simpa using h1
    rw [h1, h3, decide_eq_false h2] at h
    cases h), List.filter_nil, List.append_nil]
theorem openTr_fnd {c : Con} {ts : List Try} {tb : Nat → Nat → Option Bool} {n : Nat} (hn : n ≤ ts.length) : openTr c ts tb n = fnd (skipsM c ts tb n) (gsOf c ts n) (tb n) (gsOf c ts n).length 0 := by
  unfold openTr fnd
  rw [openK_zero, List.append_nil, over_skips hn]
theorem b_isN {te : TE} {σ : L2.St} {G : Hp} {b : Option Bool} (h : EvD K te σ G (obD b)) : EvB (tTest (tOp (fun x y H Q => y = .non ∧ Q (.bl (decide (x = .non))) H) te (tC .non))) σ G b.isNone := b_test (e_isN h (by cases b <;> rfl))
def SolOk (kvs : List (List Key × V)) (f : Nat → Nat → Bool) : Prop := ∀ a b : Nat, (valV kvs [.inl a, .inl b]).isSome = f a b
def mineD (tb : Nat → Nat → Option Bool) (n s : Nat) : List D := (List.range s).map fun j => obD (tb n j)
theorem mine_cut {tb : Nat → Nat → Option Bool} {n s a k : Nat} (h : a + k ≤ s) : cutD (mineD tb n s) (some ((a : Nat) : Int)) (some ((a : Nat) + ((k : Nat) : Int))) = ((List.range k).map fun j => tb n (a + j)).map obD := by
  unfold cutD mineD
  have e : ((a : Nat) : Int) + ((k : Nat) : Int) = ((a + k : Nat) : Int) := by omega
  rw [List.length_map, List.length_range, e, HT.sIx_nat, HT.sIx_nat, Nat.min_eq_left (show a ≤ s by omega), Nat.min_eq_left h]
  apply List.ext_getElem?
  intro i
  rw [List.getElem?_take, List.map_map, List.getElem?_map]
  by_cases hi : i < k
  · rw [if_pos (by omega), List.getElem?_drop, List.getElem?_map, List.getElem?_range (by omega), List.getElem?_range hi]
    rfl
  · rw [if_neg (by omega), List.getElem?_eq_none (by rw [List.length_range]; omega)]
    rfl
def R_law_matter (ds : List D) (r : List D) : Prop := ∃ (c : Con) (ts : List Try) (vs : List Ver), ds = [c.d, trsD ts, vrsD vs] ∧ c.Ok ∧ TriesOk c ts ∧ VersOk c ts vs ∧ vs.length ≤ 100000 ∧ r = (allOpen c ts (tbOf vs)).map prD
abbrev sp__law_matter (K : PySem.W.Frag) : Sp := spF K R_law_matter
end

section
variable [Tbs] {P : Program} {w : World} {K : PySem.W.Frag} {mg : Str → Option Value} {base : Heap}








/-! ### the law's own hall -/
abbrev lwMx (vh vc vo vt vw ve : V) : List (Key × V) := [(.inr "hall", vh), (.inr "contest", vc), (.inr "tries", vo), (.inr "known", vt), (.inr "had", vw), (.inr "log", ve)]
structure LA where
  a : Addr
  lo : Addr
  lt : Addr
  lw : Addr
  le : Addr
  h : HA
def LA.own (l : LA) : List Addr := [l.a, l.lo, l.lt, l.lw, l.le]
def LA.all (l : LA) : List Addr := l.own ++ l.h.all
structure LawAt (K : PySem.W.Frag) (G M : Hp) (l : LA) (s s2 : Hs) : Prop where
  hall : HallAt K G M l.h s2
  ex : ∃ vc, M l.a = some (.dK (lwMx (.ref l.h.o) vc (.ref l.lo) (.ref l.lt) (.ref l.lw) (.ref l.le))) ∧ Parts K G M vc l.lo l.lt l.lw l.le s
  ap : ∀ b ∈ l.own, b ∉ l.h.all
section
variable {G M G0 M0 H0 G1 M1 H H1 G' M' H' : Hp} {as as0 : List Addr} {l : LA} {s s2 s' s3 : Hs} {σ : L2.St} {te : TE} {j : Nat} {p : Addr} {h' : HA}
theorem LawAt.grow (a : LawAt K G M l s s2) (e : Ex G G1) (hm : ∀ b ∈ l.all, M1 b = M b) : LawAt K G1 M1 l s s2 := ⟨a.hall.grow e fun b hb => hm b (List.mem_append_right _ hb), by
  obtain ⟨vc, h1, p⟩ := a.ex
  have ho : ∀ b ∈ l.own, M1 b = M b := fun b hb => hm b (List.mem_append_left _ hb)
  exact ⟨vc, by rw [ho l.a (by simp [LA.own])]; exact h1, p.grow e fun b hb => ho b (List.mem_cons_of_mem _ hb)⟩, a.ap⟩
theorem LawAt.exx (a : LawAt K G M l s s2) (e : Ex G G1) : LawAt K G1 M l s s2 := a.grow e fun _ _ => rfl
theorem LawAt.ne (a : LawAt K G M l s s2) : l.a ∉ [l.lo, l.lt, l.lw, l.le] := by
  obtain ⟨vc, h1, p⟩ := a.ex
  obtain ⟨x1, k1, _⟩ := p.o
  obtain ⟨x2, k2, _⟩ := p.w
  obtain ⟨x3, k3, _⟩ := p.e
  have k4 := p.t
  intro z
  simp only [List.mem_cons, List.not_mem_nil, or_false] at z
  rcases z with z | z | z | z
  · rw [z, k1] at h1; cases h1
  · rw [z, k4] at h1; cases h1
  · rw [z, k2] at h1; cases h1
  · rw [z, k3] at h1; cases h1
theorem LawAt.stand (a : LawAt K G M l s s2) : ∀ b ∈ l.all, ∃ u, M b = some u := by
  obtain ⟨vc, h1, p⟩ := a.ex
  obtain ⟨x1, k1, _⟩ := p.o
  obtain ⟨x2, k2, _⟩ := p.w
  obtain ⟨x3, k3, _⟩ := p.e
  intro b hb
  rcases List.mem_append.mp hb with hb | hb
  · unfold LA.own at hb
    simp only [List.mem_cons, List.not_mem_nil, or_false] at hb
    rcases hb with rfl | rfl | rfl | rfl | rfl
    · exact ⟨_, h1⟩
    · exact ⟨_, k1⟩
    · exact ⟨_, p.t⟩
    · exact ⟨_, k2⟩
    · exact ⟨_, k3⟩
  · exact a.hall.stand b hb
/-! entries -/
theorem LawAt.oh (a : LawAt K G M l s s2) (ho : EvO te σ (over G M) l.a) : EvO (tDGet te (tC (.str "hall"))) σ (over G M) l.h.o := by
  obtain ⟨vc, h1, p⟩ := a.ex
  exact o_dgetS (K := K) ho (over_some h1) e_str (by rfl)
theorem LawAt.oo (a : LawAt K G M l s s2) (ho : EvO te σ (over G M) l.a) : EvO (tDGet te (tC (.str "tries"))) σ (over G M) l.lo := by
  obtain ⟨vc, h1, p⟩ := a.ex
  exact o_dgetS (K := K) ho (over_some h1) e_str (by rfl)
theorem LawAt.ot (a : LawAt K G M l s s2) (ho : EvO te σ (over G M) l.a) : EvO (tDGet te (tC (.str "known"))) σ (over G M) l.lt := by
  obtain ⟨vc, h1, p⟩ := a.ex
  exact o_dgetS (K := K) ho (over_some h1) e_str (by rfl)
theorem LawAt.ow (a : LawAt K G M l s s2) (ho : EvO te σ (over G M) l.a) : EvO (tDGet te (tC (.str "had"))) σ (over G M) l.lw := by
  obtain ⟨vc, h1, p⟩ := a.ex
  exact o_dgetS (K := K) ho (over_some h1) e_str (by rfl)
theorem LawAt.oe (a : LawAt K G M l s s2) (ho : EvO te σ (over G M) l.a) : EvO (tDGet te (tC (.str "log"))) σ (over G M) l.le := by
  obtain ⟨vc, h1, p⟩ := a.ex
  exact o_dgetS (K := K) ho (over_some h1) e_str (by rfl)
theorem LawAt.fc (a : LawAt K G M l s s2) (ow : Owns M G H) (ho : EvO te σ (over G M) l.a) : EvD K (tDGet te (tC (.str "contest"))) σ (over G M) s.c.d := by
  obtain ⟨vc, h1, p⟩ := a.ex
  exact e_dgetS ho (over_some h1) e_str (by rfl) (p.c.ex ow.gg)
theorem LawAt.fo (a : LawAt K G M l s s2) (ow : Owns M G H) (ho : EvO te σ (over G M) l.a) : EvD K (tDGet te (tC (.str "tries"))) σ (over G M) (trsD s.ts) := by
  obtain ⟨vc, h1, p⟩ := a.ex
  obtain ⟨x, k, r⟩ := p.o
  exact (a.oo ho).dat (.lst (over_some k) (r.ex ow.gg))
theorem LawAt.ft (a : LawAt K G M l s s2) (ow : Owns M G H) (ho : EvO te σ (over G M) l.a) : EvD K (tDGet te (tC (.str "known"))) σ (over G M) (.tab (vkD s.us)) := by
  obtain ⟨vc, h1, p⟩ := a.ex
  exact (a.ot ho).dat (.tab (over_some p.t))
theorem LawAt.fw (a : LawAt K G M l s s2) (ow : Owns M G H) (ho : EvO te σ (over G M) l.a) : EvD K (tDGet te (tC (.str "had"))) σ (over G M) (.lst (s.ws.map wkD)) := by
  obtain ⟨vc, h1, p⟩ := a.ex
  obtain ⟨x, k, r⟩ := p.w
  exact (a.ow ho).dat (.lst (over_some k) (r.ex ow.gg))
theorem LawAt.fe (a : LawAt K G M l s s2) (ow : Owns M G H) (ho : EvO te σ (over G M) l.a) : EvD K (tDGet te (tC (.str "log"))) σ (over G M) (.lst (s.es.map evD)) := by
  obtain ⟨vc, h1, p⟩ := a.ex
  obtain ⟨x, k, r⟩ := p.e
  exact (a.oe ho).dat (.lst (over_some k) (r.ex ow.gg))
/-! parts change -/
theorem LawAt.hall_put (a : LawAt K G M l s s2) {b : Addr} {u : HO} (hb : b ∈ l.own) : HallAt K G (upd M b u) l.h s2 := a.hall.grow (Ex.refl _) fun x hx => upd_ne fun z => a.ap b hb (z ▸ hx)
theorem LawAt.put_o (a : LawAt K G M l s s2) {xs : List V} {ts : List Try} (r : RpA K G xs (ts.map trD)) : LawAt K G (upd M l.lo (.lst xs)) l { s with ts := ts } s2 := ⟨a.hall_put (by simp [LA.own]), by
  have n := a.ne
  obtain ⟨vc, h1, p⟩ := a.ex
  exact ⟨vc, by rw [upd_ne (fun z => n (by rw [z]; simp))]; exact h1, p.put_o r⟩, a.ap⟩
theorem LawAt.put_t (a : LawAt K G M l s s2) {us : List Ver} : LawAt K G (upd M l.lt (.dT (vkD us))) l { s with us := us } s2 := ⟨a.hall_put (by simp [LA.own]), by
  have n := a.ne
  obtain ⟨vc, h1, p⟩ := a.ex
  exact ⟨vc, by rw [upd_ne (fun z => n (by rw [z]; simp))]; exact h1, p.put_t⟩, a.ap⟩
theorem LawAt.put_w (a : LawAt K G M l s s2) {xs : List V} {ws : List Work} (r : RpA K G xs (ws.map wkD)) : LawAt K G (upd M l.lw (.lst xs)) l { s with ws := ws } s2 := ⟨a.hall_put (by simp [LA.own]), by
  have n := a.ne
  obtain ⟨vc, h1, p⟩ := a.ex
  exact ⟨vc, by rw [upd_ne (fun z => n (by rw [z]; simp))]; exact h1, p.put_w r⟩, a.ap⟩
theorem LawAt.put_e (a : LawAt K G M l s s2) {xs : List V} {es : List Evn} (r : RpA K G xs (es.map evD)) : LawAt K G (upd M l.le (.lst xs)) l { s with es := es } s2 := ⟨a.hall_put (by simp [LA.own]), by
  have n := a.ne
  obtain ⟨vc, h1, p⟩ := a.ex
  exact ⟨vc, by rw [upd_ne (fun z => n (by rw [z]; simp))]; exact h1, p.put_e r⟩, a.ap⟩
theorem LawAt.new_w (a : LawAt K G M l s s2) {p : Addr} {xs : List V} {ws : List Work} {mx : List (Key × V)} (hp : M p = none) (r : RpA K G xs (ws.map wkD)) (hi : M l.a = some (.dK mx)) :
    LawAt K G (upd (upd M p (.lst xs)) l.a (.dK (putK mx (.inr "had") (.ref p)))) { l with lw := p } { s with ws := ws } s2 := by
  have n := a.ne
  have hpn : p ∉ l.h.all := fun z => by
    obtain ⟨u, hu⟩ := a.hall.stand p z
    rw [hp] at hu; cases hu
  refine ⟨?_, ?_, ?_⟩
  · refine a.hall.grow (Ex.refl _) fun x hx => ?_
    rw [upd_ne (fun z => a.ap l.a (by simp [LA.own]) (by rw [← z]; exact hx)), upd_ne (fun z => hpn (by rw [← z]; exact hx))]
  · obtain ⟨vc, h1, q⟩ := a.ex
    rw [h1] at hi
    cases hi
    have np : p ≠ l.a := fun z => by rw [z, h1] at hp; cases hp
    refine ⟨vc, upd_same, (q.new_w hp r).other fun z => ?_⟩
    simp only [List.mem_cons, List.not_mem_nil, or_false] at z n
    rcases z with z | z | z | z
    · exact n (.inl z)
    · exact n (.inr (.inl z))
    · exact np z.symm
    · exact n (.inr (.inr (.inr z)))
  · intro b hb
    unfold LA.own at hb
    simp only [List.mem_cons, List.not_mem_nil, or_false] at hb
    rcases hb with rfl | rfl | rfl | rfl | rfl
    · exact a.ap _ (by simp [LA.own])
    · exact a.ap _ (by simp [LA.own])
    · exact a.ap _ (by simp [LA.own])
    · exact hpn
    · exact a.ap _ (by simp [LA.own])
/-- a method of the hall has been called -/
theorem LawAt.called (a : LawAt K G M l s s2) (ow : Owns M G H) (c : Chg G M H l.h.all G' M' H' h'.all) (ho : h'.o = l.h.o) (a' : HallAt K G' M' h' s3) : Chg G M H l.all G' M' H' (LA.mk l.a l.lo l.lt l.lw l.le h').all ∧ LawAt K G' M' ⟨l.a, l.lo, l.lt, l.lw, l.le, h'⟩ s s3 := by
  have hst := a.stand
  refine ⟨((c.wide (as1 := l.all) fun b hb => List.mem_append_right _ hb).less fun b hb => ?_), a', ?_, ?_⟩
  · rcases List.mem_append.mp hb with z | z
    · exact List.mem_append_right _ (List.mem_append_left _ z)
    · exact List.mem_append_left _ z
  · obtain ⟨vc, h1, p⟩ := a.ex
    have hf : ∀ b ∈ l.own, M' b = M b := fun b hb => by
      obtain ⟨u, hu⟩ := hst b (List.mem_append_left _ hb)
      rw [c.f b u hu (a.ap b hb), hu]
    refine ⟨vc, by rw [hf l.a (by simp [LA.own]), ho]; exact h1, p.grow c.gg fun b hb => hf b (List.mem_cons_of_mem _ hb)⟩
  · exact c.apart fun b hb => ⟨a.ap b hb, fun z => by
      obtain ⟨u, hu⟩ := hst b (List.mem_append_left _ hb)
      rw [ow.h b u hu] at z
      cases z⟩
end
/-- what the law's own hall tells of its verdicts -/
def sp__law_known (K : PySem.W.Frag) : Sp := fun vs H Q _ => ∃ G a mx us, vs = [.ref a] ∧ Ex G H ∧ G a = some (.dK mx) ∧ (∃ lt, valV mx (.inr "known") = some (.ref lt) ∧ G lt = some (.dT (vkD us))) ∧ (vpos us).Nodup ∧ us.length ≤ 100000 ∧
  ∀ p xs G' H', Step G H G' H' → H p = none → G' p = none → H' p = some (.lst xs) → RpA K G' xs ((told us).map vrD) → Q (.ref p) H'
theorem f_lawKnown {G M : Hp} {σ : L2.St} {te : TE} {l : LA} {s s2 : Hs} (a : LawAt K G M l s s2) (ok : s.Ok) (ho : EvO te σ (over G M) l.a) : EvF K (tCall (sp__law_known K) [] E0 (tCons te tNil)) σ (over G M) ((told s.us).map vrD) := fun H e Q q =>
  ho H e _ fun G1 H1 s1 => by
    obtain ⟨vc, h1, p⟩ := a.ex
    have hl := vers_len ok.oc ok.ot ok.ov
    exact ⟨G1, l.a, _, s.us, rfl, s1.i, s1.g.k _ _ (over_some h1) rfl, ⟨l.lt, by rfl, s1.g.k _ _ (over_some p.t) rfl⟩, ok.ov.once, by omega, fun p xs G2 H2 s2 k1 k2 k3 k4 => q p xs G2 H2 (s1.trans s2) (s1.pre k1) k2 k3 k4⟩
theorem told_vok {c : Con} {ts : List Try} {us : List Ver} (o : VersOk c ts us) : VersOk c ts (told us) := by
  have hp : (vpos (told us)).Perm (vpos us) := by rw [told_pos]; exact riseL_perm _
  refine ⟨fun v hw => ?_, hp.nodup_iff.mpr o.once⟩
  have h1 : (v.1, v.2.1) ∈ vpos us := hp.mem_iff.mp (List.mem_map.mpr ⟨v, hw, rfl⟩)
  obtain ⟨u, hu, e⟩ := List.mem_map.mp h1
  injection e with e1 e2
  have := o.ok u hu
  rw [e1, e2] at this
  exact this
theorem tb_told' {us : List Ver} (hn : (vpos us).Nodup) : tbOf (told us) = tbOf us := by
  have key : ∀ (l : List (Nat × Nat)) (f : Nat × Nat → Bool) (n t : Nat), tbOf (l.map fun x => (x.1, x.2, f x)) n t = if (n, t) ∈ l then some (f (n, t)) else none := by
    intro l f n t
    induction l with
    | nil => rfl
    | cons x l ih =>
      unfold tbOf at ih ⊢
      rw [List.map_cons, List.find?_cons]
      by_cases h : x.1 = n ∧ x.2 = t
      · have e : x = (n, t) := Prod.ext h.1 h.2
        subst e
        rw [if_pos List.mem_cons_self]
        simp
      · have e : ¬ (n, t) = x := fun z => h (by rw [← z]; exact ⟨rfl, rfl⟩)
        rw [show decide ((x.1, x.2, f x).1 = n ∧ (x.1, x.2, f x).2.1 = t) = false from decide_eq_false h]
        rw [ih]
        by_cases m : (n, t) ∈ l
        · rw [if_pos m, if_pos (List.mem_cons_of_mem _ m)]
        · rw [if_neg m, if_neg (fun z => (List.mem_cons.mp z).elim e m)]
  funext n t
  unfold told
  rw [key _ (fun x => (tbOf us x.1 x.2).getD false)]
  by_cases m : (n, t) ∈ vpos us
  · rw [if_pos ((riseL_perm _).mem_iff.mpr m)]
    cases q : tbOf us n t with
    | none => exact absurd m (tbOf_no q)
    | some b => rfl
  · rw [if_neg (fun z => m ((riseL_perm _).mem_iff.mp z))]
    cases q : tbOf us n t with
    | none => rfl
    | some b =>
      have := (tbOf_some hn).mp q
      exact absurd (List.mem_map.mpr ⟨_, this, rfl⟩) m
/-- a def that changes the law's hall -/
def spLm (K : PySem.W.Frag) (R : Hs → List D → D → Hs → Prop) : Sp := fun vs H Q _ => ∃ G M l s ws ds r s', vs = .ref l.a :: ws ∧ Ex G H ∧ Owns M G H ∧ LawAt K G M l s s ∧ RpA K G ws ds ∧ R s ds r s' ∧
  ∀ v G' M' H' (l' : LA), l'.a = l.a → Ex G G' → Chg G M H l.all G' M' H' l'.all → LawAt K G' M' l' s' s' → Rp K G' v r → Q v H'
/-- .. one that draws -/
def spLd (K : PySem.W.Frag) (Pre : Hs → List D → Prop) (R : Hs → Hs → Prop) : Sp := fun vs H Q _ => ∃ p G M l s ws ds, vs = .ref p :: .ref l.a :: ws ∧ Ex G H ∧ Owns M G H ∧ DiceM M p ∧ p ∉ l.all ∧ LawAt K G M l s s ∧ RpA K G ws ds ∧ Pre s ds ∧
  ∀ s' G' M' H' (l' : LA), l'.a = l.a → Ex G G' → Chg G M H (p :: l.all) G' M' H' (p :: l'.all) → DiceM M' p → p ∉ l'.all → LawAt K G' M' l' s' s' → R s s' → Q (.bl true) H'
section
variable {G M G0 M0 H0 H : Hp} {as as0 : List Addr} {l : LA} {s s2 : Hs} {σ : L2.St} {to te : TE} {ar : TA} {m : Str} {R : Hs → List D → D → Hs → Prop} {ds : List D} {r : D} {s' : Hs}
/-- a method of the law's hall -/
theorem m_lawHall (c : Chg G0 M0 H0 as0 G M H as) (hs : ∀ b ∈ l.all, b ∈ as) (a : LawAt K G M l s s2) (ho : EvO to σ (over G M) l.h.o) (hl : ∀ x1 x2 x3 x4 x5, (hlFs x1 x2 x3 x4 x5).lookup m = none) (ha : EvAs K ar σ (over G M) ds) (hd : D.tupOA ds = true) (hR : R s2 ds r s') (Q : VK)
    (k : ∀ v G1 M1 H1 (l' : LA), l'.a = l.a → Ex G G1 → Chg G0 M0 H0 as0 G1 M1 H1 (l'.all ++ as) → LawAt K G1 M1 l' s s' → Rp K G1 v r → Q v H1) : tMeth (cA K "Hall") m (spHm K R) [] E0 to ar σ H Q := by
  obtain ⟨vc, h1, p⟩ := a.hall.ex
  refine m_callM c ho h1 (hl _ _ _ _ _) ha hd Q fun vs G1 H1 e1 c1 rv => ?_
  have a1 := a.exx e1
  refine ⟨G1, M, l.h, s2, vs, ds, r, s', by rw [List.append_nil], c1.ii, c1.o, a1.hall, rv, hR, fun v G2 M2 H2 h' ho' e2 c2 a2 rr => ?_⟩
  obtain ⟨c3, a3⟩ := a1.called c1.o c2 ho' a2
  have c4 := c1.trans (c3.wide (as1 := as) hs)
  exact k v G2 M2 H2 ⟨l.a, l.lo, l.lt, l.lw, l.le, h'⟩ rfl (e1.trans e2) c4 a3 rr
end

end

section
variable [Tbs] {P : Program} {w : World} {K : PySem.W.Frag} {mg : Str → Option Value} {base : Heap}
/-! ### what the law does to its hall -/
theorem own_in {l : LA} {b : Addr} (h : b ∈ l.own) : b ∈ l.all := List.mem_append_left _ h
section
variable {G M G0 M0 H0 G1 M1 H H1 : Hp} {as as0 : List Addr} {l l' : LA} {p : Addr}
/-- what may have come, at the end -/
theorem Chg.fin (c : Chg G M H l.all G1 M1 H1 (l'.all ++ as)) : Chg G M H l.all G1 M1 H1 l'.all := c.less fun b hb => List.mem_append_left _ hb
end
def R_l_fall (s : Hs) (ds : List D) (r : D) (s' : Hs) : Prop := ∃ j : Nat, ds = [.int j] ∧ j < s.ws.length ∧ s.es.length < 90000 ∧ r = .bl true ∧ s' = s.fall j
abbrev sp__law_fall (K : PySem.W.Frag) : Sp := spLm K R_l_fall
def R_l_tell (s : Hs) (ds : List D) (r : D) (s' : Hs) : Prop := ∃ (j : Nat) (b : Bool) (x : Nat × Nat), ds = [.int j, .bl b] ∧ s.ws[j]? = some (some x) ∧ s.es.length < 90000 ∧ r = .bl true ∧ s' = s.tell j x b
abbrev sp__law_tell (K : PySem.W.Frag) : Sp := spLm K R_l_tell
def R_l_take (s : Hs) (ds : List D) (r : D) (s' : Hs) : Prop := ∃ j : Nat, ds = [.int j] ∧ s.ws[j]? = some none ∧ s.es.length < 90000 ∧ r = .bl true ∧ s' = s.take j
abbrev sp__law_take (K : PySem.W.Frag) : Sp := spLm K R_l_take
theorem fit_taken (s : Hs) (n : Nat) : Fit (n + 2) (taken s) := by
  unfold taken
  split
  · exact .non
  · exact .tup (by show 2 ≤ 1000000; decide) fun d hd => by
      rcases List.mem_cons.mp hd with rfl | hd
      · exact .int _
      rcases List.mem_cons.mp hd with rfl | hd
      · exact .int _
      · cases hd
theorem taken_tupO (s : Hs) : (taken s).tupO = true := by
  unfold taken
  split <;> rfl
def R_l_mend (s : Hs) (ds : List D) (r : D) (s' : Hs) : Prop := ∃ k t : Nat, ds = [.int k, .int t] ∧ k < s.c.tasks.length ∧ t < s.c.size k ∧ s.es.length < 90000 ∧ r = .bl true ∧ s' = s.mend k t
abbrev sp__law_mend (K : PySem.W.Frag) : Sp := spLm K R_l_mend
end

section
variable [Tbs] {P : Program} {w : World} {K : PySem.W.Frag} {mg : Str → Option Value} {base : Heap}
/-! ### the law's hall: tries handed in, made, events -/
structure Grow (s s' : Hs) : Prop where
  c : s'.c = s.c
  w : s'.ws.length = s.ws.length
  t : s'.ts.length ≤ s.ts.length + 1
  e : s'.es.length ≤ s.es.length + 1
  v : Evt s s'
theorem grow_offer {s : Hs} {a k t : Nat} (h : Can s (.offer a k t)) : Grow s (s.offer a k t) := ⟨rfl, rfl, by show (s.ts ++ [_]).length ≤ _; rw [List.length_append]; exact Nat.le_refl _, by show (s.es ++ [_]).length ≤ _; rw [List.length_append]; exact Nat.le_refl _, .inr ⟨_, h, rfl⟩⟩
theorem grow_take {s : Hs} {j : Nat} (h : s.ws[j]? = some none) : Grow s (s.take j) := by
  have v := evt_take h
  unfold Hs.take at v ⊢
  split
  · exact ⟨rfl, rfl, Nat.le_succ _, Nat.le_succ _, .inl rfl⟩
  · rename_i q
    rw [q] at v
    exact ⟨rfl, List.length_set, Nat.le_succ _, by show (s.es ++ [_]).length ≤ _; rw [List.length_append]; exact Nat.le_refl _, v⟩
theorem grow_tell {s : Hs} {j : Nat} {x : Nat × Nat} (b : Bool) (h : s.ws[j]? = some (some x)) : Grow s (s.tell j x b) := ⟨rfl, List.length_set, Nat.le_succ _, by show (s.es ++ [_]).length ≤ _; rw [List.length_append]; exact Nat.le_refl _, evt_tell b h⟩
theorem grow_fall {s : Hs} {j : Nat} (h : j < s.ws.length) : Grow s (s.fall j) := ⟨rfl, List.length_set, Nat.le_succ _, by show (s.es ++ [_]).length ≤ _; rw [List.length_append]; exact Nat.le_refl _, .inr ⟨.fall j, h, rfl⟩⟩
theorem grow_mend {s : Hs} {k t : Nat} (h : k < s.c.tasks.length ∧ t < s.c.size k) : Grow s (s.mend k t) := ⟨rfl, mendW_len _ _ _ _ _, Nat.le_succ _, by show (s.es ++ [_]).length ≤ _; rw [List.length_append]; exact Nat.le_refl _, .inr ⟨.mend k t, h, rfl⟩⟩
section
variable {G M G0 M0 H0 G1 M1 H H1 : Hp} {as as0 : List Addr} {l l' : LA} {s s2 : Hs} {p : Addr} {σ : L2.St} {t u : TT} {ar : TA}
theorem LawAt.diced (a : LawAt K G M l s s2) (e : Ex G G1) (hp : p ∉ l.all) (hM : ∀ b, b ≠ p → M1 b = M b) : LawAt K G1 M1 l s s2 := a.grow e fun b hb => hM b fun z => hp (z ▸ hb)
theorem DiceM.keep (d : DiceM M p) (h : M1 p = M p) : DiceM M1 p := by
  obtain ⟨ms, h1, h2⟩ := d
  exact ⟨ms, by rw [h]; exact h1, h2⟩
/-- beside the dice: a def on the law's hall is called -/
theorem lawM_call {R : Hs → List D → D → Hs → Prop} {ds : List D} {r : D} {s' : Hs} (c : Chg G0 M0 H0 as0 G M H as) (hs : ∀ b ∈ l.all, b ∈ as) (dm : DiceM M p) (hp : p ∉ l.all) (a : LawAt K G M l s s) {vs : List V} (ra : RpA K G vs ds) (hR : R s ds r s') (Q : VK)
    (k : ∀ v G1 M1 H1 (l' : LA), l'.a = l.a → Ex G G1 → Chg G0 M0 H0 as0 G1 M1 H1 (l'.all ++ as) → DiceM M1 p → p ∉ l'.all → LawAt K G1 M1 l' s' s' → Rp K G1 v r → Q v H1) : spLm K R (.ref l.a :: vs) H Q E0 :=
  ⟨G, M, l, s, vs, ds, r, s', rfl, c.ii, c.o, a, ra, hR, fun v G1 M1 H1 l' hl' e1 c1 a1 rv => by
    obtain ⟨ms, hms, ok⟩ := dm
    have h1 := c1.f p _ hms hp
    refine k v G1 M1 H1 l' hl' e1 (c.trans (c1.wide hs)) ⟨ms, h1, ok⟩ (fun z => ?_) a1 rv
    rcases c1.n p z with y | y
    · exact hp y
    · rw [c.o.h _ _ hms] at y; cases y⟩
/-- a method of the law's hall; what else is own stays -/
theorem m_lawHallF {to : TE} {m : Str} {R : Hs → List D → D → Hs → Prop} {ds : List D} {r : D} {s' : Hs} (c : Chg G0 M0 H0 as0 G M H as) (hs : ∀ b ∈ l.all, b ∈ as) (a : LawAt K G M l s s2) (ho : EvO to σ (over G M) l.h.o) (hl : ∀ x1 x2 x3 x4 x5, (hlFs x1 x2 x3 x4 x5).lookup m = none) (ha : EvAs K ar σ (over G M) ds) (hd : D.tupOA ds = true) (hR : R s2 ds r s') (Q : VK)
    (k : ∀ v G1 M1 H1 (l' : LA), l'.a = l.a → Ex G G1 → Chg G0 M0 H0 as0 G1 M1 H1 (l'.all ++ as) → LawAt K G1 M1 l' s s' → Rp K G1 v r → (∀ b u, M b = some u → b ∉ l.all → M1 b = some u ∧ b ∉ l'.all) → Q v H1) : tMeth (cA K "Hall") m (spHm K R) [] E0 to ar σ H Q := by
  obtain ⟨vc, h1, p⟩ := a.hall.ex
  refine m_callM c ho h1 (hl _ _ _ _ _) ha hd Q fun vs G1 H1 e1 c1 rv => ?_
  have a1 := a.exx e1
  refine ⟨G1, M, l.h, s2, vs, ds, r, s', by rw [List.append_nil], c1.ii, c1.o, a1.hall, rv, hR, fun v G2 M2 H2 h' ho' e2 c2 a2 rr => ?_⟩
  obtain ⟨c3, a3⟩ := a1.called c1.o c2 ho' a2
  have c4 := c1.trans (c3.wide (as1 := as) hs)
  refine k v G2 M2 H2 ⟨l.a, l.lo, l.lt, l.lw, l.le, h'⟩ rfl (e1.trans e2) c4 a3 rr fun b u hb hn => ⟨c3.f b u hb hn, fun z => ?_⟩
  rcases c3.n b z with y | y
  · exact hn y
  · rw [c1.o.h b u hb] at y; cases y
theorem EvBR.chg (c : Chg G0 M0 H0 as0 G M H as) (hp : p ∈ as) (hm : DiceM M p) (h : EvBR K p t σ (over G (delM M p))) (Q : Bool → Hp → Prop)
    (k : ∀ b G1 H1 M1, Ex G G1 → Chg G0 M0 H0 as0 G1 M1 H1 as → DiceM M1 p → (∀ b, b ≠ p → M1 b = M b) → Q b H1) : t σ H Q := by
  have hm0 := hm
  obtain ⟨ms, hms, ok⟩ := hm0
  have gp := c.o.g p _ hms
  have o' := delM_owns (p := p) c.o
  refine h H ((delM_owns' c.o).ex c.ii) (by rw [over_none delM_same]; exact gp) ⟨ms, c.o.h _ _ hms, ok⟩ Q fun b G1 H1 s => ?_
  obtain ⟨G2, s2, o2, tr, fr, gM⟩ := s.s.thawM o'
  obtain ⟨M1, c1, dm, hM⟩ := c.dice hp hm s2 o2 (fr p s.g) s.d
  exact k b G2 H1 M1 s2.g c1 dm hM
theorem br_and (h1 : EvBR K p t σ G) (h2 : EvBR K p u σ G) : EvBR K p (tAnd t u) σ G := fun H e g dc Q q => h1 H e g dc _ fun b G1 H1 s1 => by
  cases b with
  | true =>
    show u σ H1 Q
    refine h2 H1 (s1.gg.trans s1.ii) g s1.d Q fun b G2 H2 s2 => ?_
    obtain ⟨G3, s3, e3, n3⟩ := s2.s.widen s1.gg (ex_hide s1.ii s1.g s1.d)
    exact q b G3 H2 (s1.trans ⟨s3, n3 p hide_p s2.g, s2.d⟩)
  | false => exact q false G1 H1 s1
theorem delM_own {l : Addr} {w : HO} (n : l ≠ p) (h : M l = some w) : delM M p l = some w := by rw [delM_ne n]; exact h
theorem LawAt.del (a : LawAt K G M l s s2) (hp : p ∉ l.all) : LawAt K G (delM M p) l s s2 := a.grow (Ex.refl _) fun b hb => delM_ne fun z => hp (z ▸ hb)
end
def Pre_l_offer (s : Hs) (ds : List D) : Prop := ds = [] ∧ s.ts.length < 200 ∧ s.es.length < 90000
abbrev sp__law_offer (K : PySem.W.Frag) : Sp := spLd K Pre_l_offer Grow
theorem fit_int (i : Int) (n : Nat) : Fit (n + 1) (.int i) := .int i
end

section
variable [Tbs] {P : Program} {w : World} {K : PySem.W.Frag} {mg : Str → Option Value} {base : Heap}
/-! ### the law's hall made; an event -/
section
variable {G M G0 M0 H0 H : Hp} {as as0 : List Addr} {σ : L2.St} {ar : TA} {c : Con} {n : Nat}
theorem m_mkHall (cc : Chg G0 M0 H0 as0 G M H as) (ha : EvAs K ar σ (over G M) [c.d, .int (n : Nat)]) (oc : c.Ok) (h1 : 1 ≤ n) (h5 : n ≤ 5) (Q : VK)
    (k : ∀ G1 M1 H1 (h : HA), Ex G G1 → Chg G0 M0 H0 as0 G1 M1 H1 (h.all ++ as) → HallAt K G1 M1 h (hs0 c n) → (∀ b u, M b = some u → M1 b = some u ∧ b ∉ h.all) → Q (.ref h.o) H1) : tMake (cA K "Hall") (sp_Hall_init K) [] E0 ar σ H Q := by
  refine EvAs.chg ha (by show ((c.d).tupO && (true && true)) = true; rw [conT]; rfl) cc _ fun vs G1 H1 e1 c1 r => ?_
  intro x dx hx hdx ne
  refine ⟨G1, M, H1, x, dx, _, c, n, rfl, rfl, hx, hdx, ne, c1.ii, c1.o, by rw [List.append_nil]; exact r, oc, h1, h5, fun G2 M2 H2 h ho e2 c2 a2 => ⟨rfl, ?_⟩⟩
  rw [← ho]
  refine k G2 M2 H2 h (e1.trans e2) (c1.trans ((c2.wide (as1 := as) (fun b hb => nomatch hb)))) a2 fun b u hb => ⟨c2.f b u hb (fun z => nomatch z), fun z => ?_⟩
  rcases c2.n b z with y | y
  · cases y
  · rw [c1.o.h b u hb] at y; cases y
end
theorem tC_go {v : V} {σ : L2.St} {H : Hp} {Q : VK} (h : Q v H) : tC v σ H Q := h
def sp__law_hall (K : PySem.W.Frag) : Sp := fun vs H Q _ => ∃ G M vc c n, vs = [vc, .int (n : Nat)] ∧ Ex G H ∧ Owns M G H ∧ Rp K G vc c.d ∧ c.Ok ∧ 1 ≤ n ∧ n ≤ 5 ∧
  ∀ G' M' H' (l : LA), Ex G G' → Chg G M H [] G' M' H' l.all → LawAt K G' M' l (hs0 c n) (hs0 c n) → Q (.ref l.a) H'
theorem Chg.owns1 {G M G0 M0 H0 H : Hp} {as as0 : List Addr} {b : Addr} {u : HO} (c : Chg G0 M0 H0 as0 G M H as) (h : M b = some u) : H b = some u := c.o.h b u h
end

section
variable [Tbs] {P : Program} {w : World} {K : PySem.W.Frag} {mg : Str → Option Value} {base : Heap}
/-! ### own halls: made, called; two data compared -/
theorem tSeq_go {t u : TS} {D : Ends} {σ : L2.St} {H : Hp} (h : t { D with nx := u D } σ H) : tSeq t u D σ H := h
section
variable {G M G0 M0 H0 H : Hp} {as as0 : List Addr} {h : HA} {s : Hs} {σ : L2.St} {to te : TE} {ar : TA} {m : Str} {R : Hs → List D → D → Hs → Prop} {ds : List D} {r : D} {s' : Hs}
/-- a method of an own hall -/
theorem m_hallC (c : Chg G0 M0 H0 as0 G M H as) (hs : ∀ b ∈ h.all, b ∈ as) (a : HallAt K G M h s) (ho : EvO to σ (over G M) h.o) (hl : ∀ x1 x2 x3 x4 x5, (hlFs x1 x2 x3 x4 x5).lookup m = none) (ha : EvAs K ar σ (over G M) ds) (hd : D.tupOA ds = true) (hR : R s ds r s') (Q : VK)
    (k : ∀ v G1 M1 H1 (h' : HA), h'.o = h.o → Ex G G1 → Chg G0 M0 H0 as0 G1 M1 H1 (h'.all ++ as) → HallAt K G1 M1 h' s' → Rp K G1 v r → Q v H1) : tMeth (cA K "Hall") m (spHm K R) [] E0 to ar σ H Q := by
  obtain ⟨vc, h1, p⟩ := a.ex
  refine m_callM c ho h1 (hl _ _ _ _ _) ha hd Q fun vs G1 H1 e1 c1 rv => ?_
  exact ⟨G1, M, h, s, vs, ds, r, s', by rw [List.append_nil], c1.ii, c1.o, a.exx e1, rv, hR, fun v G2 M2 H2 h' ho' e2 c2 a2 rr => k v G2 M2 H2 h' ho' (e1.trans e2) (c1.trans (c2.wide (as1 := as) hs)) a2 rr⟩
theorem q_mkHall {G M G0 M0 H0 H : Hp} {as as0 : List Addr} {σ : L2.St} {ar : TA} {c : Con} {n i : Nat} {tz : TS} {Dn : Ends} (cc : Chg G0 M0 H0 as0 G M H as) (ha : EvAs K ar σ (over G M) [c.d, .int (n : Nat)]) (oc : c.Ok) (h1 : 1 ≤ n) (h5 : n ≤ 5)
    (k : ∀ G1 M1 H1 (h : HA), Ex G G1 → Chg G0 M0 H0 as0 G1 M1 H1 (h.all ++ as) → HallAt K G1 M1 h (hs0 c n) → (∀ b u, M b = some u → M1 b = some u ∧ b ∉ h.all) → tz Dn (σ.set i (some (.ref h.o))) H1) : tSeq (tAsg (tMake (cA K "Hall") (sp_Hall_init K) [] E0 ar) (gName i)) tz Dn σ H := by
  unfold tSeq tAsg
  exact m_mkHall cc ha oc h1 h5 (fun x H1 => gName i x σ H1 (tz Dn)) k
theorem eq_vals {x y : V} {d1 d2 : D} {Q : VK} (r1 : Rp K H x d1) (r2 : Rp K H y d2) (h1 : d1.ok = true) (h2 : d2.ok = true) (k : Q (.bl (PyData.eqv d1.py d2.py)) H) : rEqA K x y H Q := by
  have q1 := (Bool.and_eq_true _ _).mp h1
  have q2 := (Bool.and_eq_true _ _).mp h2
  exact .inr ⟨_, _, r1.dp q1.1, r2.dp q2.1, q1.2, q2.2, k⟩
end

end

section
variable [Tbs] {P : Program} {w : World} {K : PySem.W.Frag} {mg : Str → Option Value} {base : Heap}
/-! ### an event -/
theorem Con.size_pos {c : Con} (o : c.Ok) {k : Nat} (h : k < c.tasks.length) : 1 ≤ c.size k := by
  obtain ⟨_, h1, _, h2⟩ := Con.task_ok o h
  unfold Con.size sizeG
  cases q : c.groups k with
  | nil => rw [q] at h1; exact absurd h1 (by decide)
  | cons g gs =>
    have := (h2 g (by rw [q]; exact List.mem_cons_self)).1.1
    rw [List.map_cons, List.sum_cons]
    omega
section
variable {G M G0 M0 H0 G1 M1 H H1 : Hp} {as as0 : List Addr} {l l' : LA} {s s2 s' : Hs} {p : Addr} {σ : L2.St} {t u : TT} {ar : TA} {Dn : Ends} {tu tz : TS}
/-- .. beside it all: a def that draws is called -/
theorem lawD_call {Pre : Hs → List D → Prop} {R : Hs → Hs → Prop} {ds : List D} {vs : List V} (c : Chg G0 M0 H0 as0 G M H as) (hs : ∀ b ∈ p :: l.all, b ∈ as) (dm : DiceM M p) (hp : p ∉ l.all) (a : LawAt K G M l s s) (ra : RpA K G vs ds) (pre : Pre s ds) (Q : VK)
    (k : ∀ s' G1 M1 H1 (l' : LA), l'.a = l.a → Ex G G1 → Chg G0 M0 H0 as0 G1 M1 H1 ((p :: l'.all) ++ as) → DiceM M1 p → p ∉ l'.all → LawAt K G1 M1 l' s' s' → R s s' → (∀ b u, M b = some u → b ∉ p :: l.all → M1 b = some u ∧ b ∉ l'.all) → Q (.bl true) H1) : spLd K Pre R (.ref p :: .ref l.a :: vs) H Q E0 :=
  ⟨p, G, M, l, s, vs, ds, rfl, c.ii, c.o, dm, hp, a, ra, pre, fun s' G1 M1 H1 l' hl' e1 c1 dm1 hp1 a1 r => by
    refine k s' G1 M1 H1 l' hl' e1 (c.trans (c1.wide hs)) dm1 hp1 a1 r fun b u hb hn => ⟨c1.f b u hb hn, fun z => ?_⟩
    rcases c1.n b (List.mem_cons_of_mem _ z) with y | y
    · exact hn y
    · rw [c.o.h b u hb] at y; cases y⟩
theorem q_whenRC (c : Chg G0 M0 H0 as0 G M H as) (hp : p ∈ as) (hm : DiceM M p) (h : EvBR K p t σ (over G (delM M p)))
    (h1 : ∀ G1 H1 M1, Ex G G1 → Chg G0 M0 H0 as0 G1 M1 H1 as → DiceM M1 p → (∀ b, b ≠ p → M1 b = M b) → tu { Dn with nx := tz Dn } σ H1)
    (h2 : ∀ G1 H1 M1, Ex G G1 → Chg G0 M0 H0 as0 G1 M1 H1 as → DiceM M1 p → (∀ b, b ≠ p → M1 b = M b) → tz Dn σ H1) : tSeq (tIfS t tu tNext) tz Dn σ H :=
  EvBR.chg c hp hm h _ fun b G1 H1 M1 e1 c1 d1 hM => by
    cases b with
    | true => exact h1 G1 H1 M1 e1 c1 d1 hM
    | false => exact h2 G1 H1 M1 e1 c1 d1 hM
theorem Chg.finD (c : Chg G0 M0 H0 as0 G1 M1 H1 (l'.all ++ (p :: l.all))) : Chg G0 M0 H0 as0 G1 M1 H1 (p :: l'.all) := c.less fun b hb => by
  rcases List.mem_cons.mp hb with z | z
  · exact List.mem_append_right _ (z ▸ List.mem_cons_self)
  · exact List.mem_append_left _ z
end
def Pre_l_event (s : Hs) (ds : List D) : Prop := ∃ most : Nat, ds = [.int most] ∧ most ≤ 100 ∧ s.es.length < 90000
abbrev sp__law_event (K : PySem.W.Frag) : Sp := spLd K Pre_l_event Grow
end

section
variable [Tbs] {P : Program} {w : World} {K : PySem.W.Frag} {mg : Str → Option Value} {base : Heap}
/-! ### two halls of the law, the dice -/
structure LSt (K : PySem.W.Frag) (Ga Ma Ha : Hp) (p : Addr) (G M H : Hp) (as : List Addr) (l1 l2 : LA) (s1 s2 : Hs) : Prop where
  c : Chg Ga Ma Ha [p] G M H as
  hp : p ∈ as
  dm : DiceM M p
  p1 : p ∉ l1.all
  p2 : p ∉ l2.all
  i1 : ∀ b ∈ l1.all, b ∈ as
  i2 : ∀ b ∈ l2.all, b ∈ as
  ap : ∀ b ∈ l2.all, b ∉ l1.all
  a1 : LawAt K G M l1 s1 s1
  a2 : LawAt K G M l2 s2 s2
section
variable {Ga Ma Ha G M H G1 M1 H1 : Hp} {as as1 : List Addr} {l1 l2 : LA} {s1 s2 : Hs} {p q : Addr} {w u : HO} {σ : L2.St} {t : TT}
theorem LSt.swap (x : LSt K Ga Ma Ha p G M H as l1 l2 s1 s2) : LSt K Ga Ma Ha p G M H as l2 l1 s2 s1 := ⟨x.c, x.hp, x.dm, x.p2, x.p1, x.i2, x.i1, fun b hb z => x.ap b z hb, x.a2, x.a1⟩
theorem LSt.then (x : LSt K Ga Ma Ha p G M H as l1 l2 s1 s2) (s : Step G H G1 H1) : LSt K Ga Ma Ha p G1 M H1 as l1 l2 s1 s2 := ⟨x.c.then s, x.hp, x.dm, x.p1, x.p2, x.i1, x.i2, x.ap, x.a1.exx s.g, x.a2.exx s.g⟩
theorem LSt.on (x : LSt K Ga Ma Ha p G M H as l1 l2 s1 s2) (e : Ex G G1) (c : Chg Ga Ma Ha [p] G1 M H1 as) : LSt K Ga Ma Ha p G1 M H1 as l1 l2 s1 s2 := ⟨c, x.hp, x.dm, x.p1, x.p2, x.i1, x.i2, x.ap, x.a1.exx e, x.a2.exx e⟩
theorem LSt.dice (x : LSt K Ga Ma Ha p G M H as l1 l2 s1 s2) (e : Ex G G1) (c : Chg Ga Ma Ha [p] G1 M1 H1 as) (d : DiceM M1 p) (hM : ∀ b, b ≠ p → M1 b = M b) : LSt K Ga Ma Ha p G1 M1 H1 as l1 l2 s1 s2 := ⟨c, x.hp, d, x.p1, x.p2, x.i1, x.i2, x.ap, x.a1.diced e x.p1 hM, x.a2.diced e x.p2 hM⟩
/-- another own object -/
theorem LSt.put (x : LSt K Ga Ma Ha p G M H as l1 l2 s1 s2) (e : Ex G G1) (c : Chg Ga Ma Ha [p] G1 (upd M q w) H1 as1) (sub : ∀ b ∈ as, b ∈ as1) (n1 : q ∉ l1.all) (n2 : q ∉ l2.all) (np : q ≠ p) : LSt K Ga Ma Ha p G1 (upd M q w) H1 as1 l1 l2 s1 s2 :=
  ⟨c, sub _ x.hp, x.dm.keep (upd_ne (Ne.symm np)), x.p1, x.p2, fun b hb => sub b (x.i1 b hb), fun b hb => sub b (x.i2 b hb), x.ap, x.a1.grow e fun b hb => upd_ne fun z => n1 (z ▸ hb), x.a2.grow e fun b hb => upd_ne fun z => n2 (z ▸ hb)⟩
theorem LSt.new (x : LSt K Ga Ma Ha p G M H as l1 l2 s1 s2) (h : H q = none) : M q = none ∧ q ∉ l1.all ∧ q ∉ l2.all ∧ q ≠ p := by
  have h0 := x.c.ne h
  refine ⟨h0, fun z => ?_, fun z => ?_, fun z => ?_⟩
  · obtain ⟨u, hu⟩ := x.a1.stand q z
    rw [h0] at hu; cases hu
  · obtain ⟨u, hu⟩ := x.a2.stand q z
    rw [h0] at hu; cases hu
  · obtain ⟨ms, hms, _⟩ := x.dm
    rw [z, hms] at h0; cases h0
/-- a def that draws works on the first hall -/
theorem LSt.ev {Pre : Hs → List D → Prop} {R : Hs → Hs → Prop} {ds : List D} {vs : List V} (x : LSt K Ga Ma Ha p G M H as l1 l2 s1 s2) (ra : RpA K G vs ds) (pre : Pre s1 ds) (Q : VK)
    (k : ∀ s' G1 M1 H1 as1 (l' : LA), l'.a = l1.a → Ex G G1 → LSt K Ga Ma Ha p G1 M1 H1 as1 l' l2 s' s2 → R s1 s' → Q (.bl true) H1) : spLd K Pre R (.ref p :: .ref l1.a :: vs) H Q E0 := by
  refine lawD_call (p := p) x.c (fun b hb => (List.mem_cons.mp hb).elim (fun z => z ▸ x.hp) (x.i1 b)) x.dm x.p1 x.a1 ra pre Q fun s' G1 M1 H1 l' hl' e1 c1 dm1 hp1 a1' r keep => ?_
  have h2 : ∀ b ∈ l2.all, M1 b = M b ∧ b ∉ l'.all := fun b hb => by
    obtain ⟨u, hu⟩ := x.a2.stand b hb
    obtain ⟨k1, k2⟩ := keep b u hu fun z => (List.mem_cons.mp z).elim (fun z => x.p2 (z ▸ hb)) (x.ap b hb)
    exact ⟨by rw [k1, hu], k2⟩
  exact k s' G1 M1 H1 _ l' hl' e1 ⟨c1, List.mem_append_left _ List.mem_cons_self, dm1, hp1, x.p2, fun b hb => List.mem_append_left _ (List.mem_cons_of_mem _ hb), fun b hb => List.mem_append_right _ (x.i2 b hb), fun b hb => (h2 b hb).2, a1', x.a2.grow e1 fun b hb => (h2 b hb).1⟩ r
theorem lawH_call {G0 M0 H0 : Hp} {as0 : List Addr} {cc : Con} {n : Nat} {v : V} (c : Chg G0 M0 H0 as0 G M H as) (rv : Rp K G v cc.d) (oc : cc.Ok) (h1 : 1 ≤ n) (h5 : n ≤ 5) (Q : VK)
    (k : ∀ G1 M1 H1 (l : LA), Ex G G1 → Chg G0 M0 H0 as0 G1 M1 H1 (l.all ++ as) → LawAt K G1 M1 l (hs0 cc n) (hs0 cc n) → (∀ b u, M b = some u → M1 b = some u ∧ b ∉ l.all) → Q (.ref l.a) H1) : sp__law_hall K [v, .int (n : Nat)] H Q E0 :=
  ⟨G, M, v, cc, n, rfl, c.ii, c.o, rv, oc, h1, h5, fun G1 M1 H1 l e1 c1 a1 => by
    refine k G1 M1 H1 l e1 (c.trans (c1.wide (as1 := as) fun b hb => nomatch hb)) a1 fun b u hb => ⟨c1.f b u hb (fun z => nomatch z), fun z => ?_⟩
    rcases c1.n b z with y | y
    · cases y
    · rw [c.o.h b u hb] at y; cases y⟩
theorem fit_fl {d : D} {n : Nat} (h : d.flat = true) : Fit (n + 1) d := by
  cases d with
  | int i => exact .int i
  | str s => exact .str s
  | bl b => exact .bl b
  | non => exact .non
  | _ => cases h
theorem fit_tupF {ds : List D} {n : Nat} (hl : ds.length ≤ 1000000) (h : ∀ d ∈ ds, d.flat = true) : Fit (n + 2) (.tup ds) := .tup hl fun d hd => fit_fl (h d hd)
theorem fit_evD (e : Evn) {n : Nat} : Fit (n + 2) (evD e) := by
  cases e
  · refine fit_tupF (by simp) fun d hd => ?_
    simp only [List.mem_cons, List.not_mem_nil, or_false] at hd
    rcases hd with rfl | rfl | rfl | rfl <;> rfl
  · refine fit_tupF (by simp) fun d hd => ?_
    simp only [List.mem_cons, List.not_mem_nil, or_false] at hd
    rcases hd with rfl | rfl | rfl | rfl <;> rfl
  · refine fit_tupF (by simp) fun d hd => ?_
    simp only [List.mem_cons, List.not_mem_nil, or_false] at hd
    rcases hd with rfl | rfl | rfl <;> rfl
  · refine fit_tupF (by simp) fun d hd => ?_
    simp only [List.mem_cons, List.not_mem_nil, or_false] at hd
    rcases hd with rfl | rfl <;> rfl
  · refine fit_tupF (by simp) fun d hd => ?_
    simp only [List.mem_cons, List.not_mem_nil, or_false] at hd
    rcases hd with rfl | rfl | rfl <;> rfl
theorem fit_trD (x : Try) {n : Nat} : Fit (n + 2) (trD x) := fit_tupF (by show 3 ≤ 1000000; decide) fun d hd => by
  simp only [List.mem_cons, List.not_mem_nil, or_false] at hd
  rcases hd with rfl | rfl | rfl <;> rfl
theorem fit_vrD (x : Ver) {n : Nat} : Fit (n + 2) (vrD x) := fit_tupF (by show 3 ≤ 1000000; decide) fun d hd => by
  simp only [List.mem_cons, List.not_mem_nil, or_false] at hd
  rcases hd with rfl | rfl | rfl <;> rfl
theorem fit_hadL (ws : List Work) (hl : ws.length ≤ 1000000) {n : Nat} : Fit (n + 3) (.lst (hadL ws)) := .lst (Nat.le_trans (pick_len _ _) hl) fun d hd => by
  obtain ⟨i, hi, rfl⟩ := List.mem_map.mp hd
  unfold hadD
  split
  · exact .non
  · refine fit_tupF (by show 3 ≤ 1000000; decide) fun d hd => ?_
    simp only [List.mem_cons, List.not_mem_nil, or_false] at hd
    rcases hd with rfl | rfl | rfl <;> rfl
theorem hadL_tupO (ws : List Work) : D.tupOA (hadL ws) = true := tupOA_map (fun j => by
  unfold hadD
  split <;> rfl) _
theorem told_len (us : List Ver) : (told us).length = us.length := by
  have h1 : (vpos (told us)).length = (vpos us).length := by rw [told_pos]; exact (riseL_perm _).length_eq
  simpa [vpos] using h1
end
theorem fit_parts (s : Hs) (h : s.Ok) (he : s.es.length ≤ 1000000) : Fit 8 (.lst [.lst (s.ts.map trD), .lst ((told s.us).map vrD), .lst (hadL s.ws), .lst (s.es.map evD)]) := by
  have h1 := h.ot.len
  have h2 := vers_len h.oc h.ot h.ov
  have h3 := h.wl
  refine .lst (by show 4 ≤ 1000000; decide) fun d hd => ?_
  simp only [List.mem_cons, List.not_mem_nil, or_false] at hd
  rcases hd with rfl | rfl | rfl | rfl
  · exact .lst (by rw [List.length_map]; omega) fun d hd => by
      obtain ⟨x, _, rfl⟩ := List.mem_map.mp hd
      exact fit_trD x
  · exact .lst (by rw [List.length_map, told_len]; omega) fun d hd => by
      obtain ⟨x, _, rfl⟩ := List.mem_map.mp hd
      exact fit_vrD x
  · exact fit_hadL _ (by omega)
  · exact .lst (by rw [List.length_map]; omega) fun d hd => by
      obtain ⟨x, _, rfl⟩ := List.mem_map.mp hd
      exact fit_evD x
section
variable {Ga Ma Ha G M H G1 M1 H1 : Hp} {as as1 : List Addr} {l1 l2 : LA} {s1 s2 : Hs} {p q : Addr} {w u : HO} {σ : L2.St} {t : TT} {Dn : Ends} {tu tz : TS} {te : TE}
/-- if not (a def that draws works on the first hall): return .. -/
theorem LSt.qnot {Pre : Hs → List D → Prop} {R : Hs → Hs → Prop} {ds : List D} {vs : List V} (x : LSt K Ga Ma Ha p G M H as l1 l2 s1 s2) (he : ∀ H Q, spLd K Pre R (.ref p :: .ref l1.a :: vs) H Q E0 → te σ H Q) (ra : RpA K G vs ds) (pre : Pre s1 ds)
    (k : ∀ s' G1 M1 H1 as1 (l' : LA), l'.a = l1.a → Ex G G1 → LSt K Ga Ma Ha p G1 M1 H1 as1 l' l2 s' s2 → R s1 s' → tz Dn σ H1) : tSeq (tIfS (tNot (tB te)) tu tNext) tz Dn σ H :=
  he _ _ (x.ev ra pre _ fun s' G2 M2 H2 as2 l' hl' e2 x2 r => ⟨true, rfl, k s' G2 M2 H2 as2 l' hl' e2 x2 r⟩)
/-- if .. and not (a def that draws works on the second hall): return .. -/
theorem LSt.qand {Pre : Hs → List D → Prop} {R : Hs → Hs → Prop} {ds : List D} {vs : List V} (x : LSt K Ga Ma Ha p G M H as l1 l2 s1 s2) (ht : EvBR K p t σ (over G (delM M p))) (he : ∀ H Q, spLd K Pre R (.ref p :: .ref l2.a :: vs) H Q E0 → te σ H Q) (ra : RpA K G vs ds) (pre : Pre s2 ds)
    (k : ∀ s' G1 M1 H1 as1 (l' : LA), l'.a = l2.a → Ex G G1 → LSt K Ga Ma Ha p G1 M1 H1 as1 l1 l' s1 s' → (R s2 s' ∨ s' = s2) → tz Dn σ H1) : tSeq (tIfS (tAnd t (tNot (tB te))) tu tNext) tz Dn σ H := by
  refine EvBR.chg x.c x.hp x.dm ht _ fun b G1 H1 M1 e1 c1 d1 hM => ?_
  have x1 := x.dice e1 c1 d1 hM
  cases b with
  | false => exact k s2 G1 M1 H1 as l2 rfl e1 x1 (.inr rfl)
  | true =>
    refine he _ _ (x1.swap.ev (ra.ex e1) pre _ fun s' G2 M2 H2 as2 l' hl' e2 x2 r => ⟨true, rfl, ?_⟩)
    exact k s' G2 M2 H2 as2 l' hl' (e1.trans e2) x2.swap (.inl r)
end
theorem tNil_go {σ : L2.St} {H : Hp} {Q : List V → Hp → Prop} (h : Q [] H) : tNil σ H Q := h
theorem tCons_go {v : V} {σ : L2.St} {H : Hp} {Q : List V → Hp → Prop} (h : Q [v] H) : tCons (tC v) tNil σ H Q := h

end

section
variable [Tbs] {P : Program} {w : World} {K : PySem.W.Frag} {mg : Str → Option Value} {base : Heap}
/-! ### whoever judges when: nothing that matters is left -/
theorem filter_pre {α : Type} {q : α → Bool} : ∀ {l : List α}, l.Pairwise (fun a b => q a = false → q b = false) → ∃ rest, l = l.filter q ++ rest
  | [], _ => ⟨[], rfl⟩
  | x :: l, h => by
    obtain ⟨h1, h2⟩ := List.pairwise_cons.mp h
    cases e : q x with
    | true =>
      obtain ⟨rest, hr⟩ := filter_pre h2
      refine ⟨rest, ?_⟩
      rw [List.filter_cons, if_pos e, List.cons_append, ← hr]
    | false =>
      refine ⟨x :: l, ?_⟩
      have : (x :: l).filter q = [] := List.filter_eq_nil_iff.mpr fun y hy => by
        rcases List.mem_cons.mp hy with rfl | hy
        · rw [e]; exact Bool.false_ne_true
        · rw [h1 y hy e]; exact Bool.false_ne_true
      rw [this]; rfl
theorem nums_pre {c : Con} {ts : List Try} (ot : TriesOk c ts) {a b u f : Nat} (h : u ≤ f) : ∃ rest, numsOf ts a b f = numsOf ts a b u ++ rest := by
  have hr := nums_rise ot a b f
  obtain ⟨rest, e⟩ := filter_pre (q := fun k => decide ((tryAt ts k).2.2 < u)) (hr.imp fun {x y} hxy hx => decide_eq_false (by have := of_decide_eq_false hx; omega))
  rw [numsOf_cut h] at e
  exact ⟨rest, e⟩
section
variable {c : Con} {ts : List Try} {tb τ : Nat → Nat → Option Bool}
theorem Keeps.solvedU (h : Keeps tb τ) (ha : allOpen c ts tb = []) {a b : Nat} {rest : List Nat} : ∀ (ns pre' : List Nat) (w : Nat), numsOf ts a b c.fin = pre' ++ (ns ++ rest) → (∀ k ∈ pre', tSt c ts tb k ≠ .passed) → solvedFrom c ts tb w ns = solvedFrom c ts τ w ns
  | [], _, _, _, _ => rfl
  | n :: ns, pre', w, e, hp => by
    have hm : n ∈ numsOf ts a b c.fin := by rw [e]; exact List.mem_append_right _ (List.mem_append_left _ List.mem_cons_self)
    obtain ⟨hn, e1, e2, e3⟩ := numsOf_is hm
    rw [solved_cons, solved_cons]
    by_cases q : tSt c ts tb n = .passed
    · rw [if_pos q, if_pos (h.pass q)]
    · have same : tSt c ts τ n = tSt c ts tb n := by
        by_cases qf : tSt c ts tb n = .failed
        · rw [qf, h.fail qf]
        · refine (h.tSame ha hn ?_).symm
          unfold isOver
          rw [decide_eq_false (show ¬ c.fin ≤ (tryAt ts n).2.2 by omega), decide_eq_false qf, Bool.false_or, Bool.false_or]
          have : (((numsOf ts (tryAt ts n).1 (tryAt ts n).2.1 c.fin).filter fun k => decide (k < n)).any fun k => decide (tSt c ts tb k = .passed)) = false := by
            rw [List.any_eq_false]
            intro k hk
            obtain ⟨h1, h2⟩ := List.mem_filter.mp hk
            have h2 := of_decide_eq_true h2
            rw [e1, e2, e] at h1
            have hu := numsOf_up ts a b c.fin
            rw [e] at hu
            rcases List.mem_append.mp h1 with h1 | h1
            · rw [decide_eq_false (hp k h1)]
              exact Bool.false_ne_true
            · have hu2 := (List.pairwise_append.mp hu).2.1
              rcases List.mem_cons.mp h1 with h1 | h1
              · omega
              · have := (List.pairwise_cons.mp hu2).1 k h1
                omega
          rw [this, Bool.and_false]
      rw [if_neg q, if_neg (by rw [same]; exact q), same]
      refine h.solvedU ha ns (pre' ++ [n]) _ (by rw [e, List.append_assoc]; rfl) fun k hk => ?_
      rcases List.mem_append.mp hk with hk | hk
      · exact hp k hk
      · rw [List.mem_singleton.mp hk]; exact q
theorem Keeps.pointsU (ot : TriesOk c ts) (h : Keeps tb τ) (ha : allOpen c ts tb = []) (hr : c.rule ≠ sFirst) {a k u : Nat} (hu : u ≤ c.fin) : pointsAt c ts tb k (numsOf ts a k u) = pointsAt c ts τ k (numsOf ts a k u) := by
  obtain ⟨rest, er⟩ := nums_pre ot (a := a) (b := k) hu
  have key : ∀ n ∈ numsOf ts a k u, ∀ g, g < (c.groups k).length → gSt (c.groups k) (tb n) g = gSt (c.groups k) (τ n) g := fun n hn g hg => by
    obtain ⟨h1, e1, e2, e3⟩ := numsOf_is (show n ∈ numsOf ts a k c.fin by rw [er]; exact List.mem_append_left _ hn)
    have hov : isOver c ts tb n = false := by
      unfold isOver
      rw [decide_eq_false (show ¬ c.fin ≤ (tryAt ts n).2.2 by omega), decide_eq_false hr]
      rfl
    have eg : gsOf c ts n = c.groups k := by
      show c.groups (tryAt ts n).2.1 = _
      rw [e2]
    have := h.groups ha h1 hov (g := g) (by rw [eg]; exact hg)
    rw [eg] at this
    exact this
  unfold pointsAt
  split
  · unfold bestU
    refine foldl_same _ fun n hn b => ?_
    have : passedG (c.groups k) (tb n) = passedG (c.groups k) (τ n) := by
      unfold passedG
      exact List.filter_congr fun g hg => by rw [key n hn g (List.mem_range.mp hg)]
    unfold bestN
    rw [this]
  · congr 1
    refine List.map_congr_left fun g hg => ?_
    unfold singU
    exact foldl_same _ fun n hn b => by rw [key n hn g (List.mem_range.mp hg)]
theorem Keeps.score (ot : TriesOk c ts) (h : Keeps tb τ) (ha : allOpen c ts tb = []) {us : List Nat} (hu : ∀ k, k < c.tasks.length → untAt us k ≤ c.fin) (t : Nat) : scoreL c ts tb us t = scoreL c ts τ us t := by
  unfold scoreL
  by_cases hr : c.rule = sFirst
  · rw [if_pos hr, if_pos hr]
    have : firstU c ts tb us t c.tasks.length = firstU c ts τ us t c.tasks.length := by
      unfold firstU
      refine foldl_same _ fun k hk b => ?_
      obtain ⟨rest, er⟩ := nums_pre ot (a := t) (b := k) (hu k (List.mem_range.mp hk))
      unfold solOf
      rw [h.solvedU (a := t) (b := k) (rest := rest) ha (numsOf ts t k (untAt us k)) [] 0 (by rw [er]; rfl) fun _ h => nomatch h]
    rw [this]
  · rw [if_neg hr, if_neg hr]
    have : ptsU c ts tb us t c.tasks.length = ptsU c ts τ us t c.tasks.length := by
      unfold ptsU
      refine foldl_same _ fun k hk b => ?_
      rw [h.pointsU ot ha hr (hu k (List.mem_range.mp hk))]
    rw [this]
theorem whole_le (c : Con) {k : Nat} (hk : k < c.tasks.length) : untAt (wholeU c) k ≤ c.fin := by
  unfold untAt wholeU
  rw [List.getD_eq_getElem?_getD, List.getElem?_replicate, if_pos hk]
  exact Nat.le_refl _
theorem Keeps.scores (ot : TriesOk c ts) (h : Keeps tb τ) (ha : allOpen c ts tb = []) : scoresL c ts tb (wholeU c) = scoresL c ts τ (wholeU c) := by
  unfold scoresL
  exact List.map_congr_left fun t _ => h.score ot ha (fun k hk => whole_le c hk) t
theorem Keeps.place (ot : TriesOk c ts) (h : Keeps tb τ) (ha : allOpen c ts tb = []) (t : Nat) : placeT c ts tb t = placeT c ts τ t := by
  unfold placeT
  rw [h.scores ot ha]
theorem Keeps.scoresB (ot : TriesOk c ts) (oc : c.Ok) (h : Keeps tb τ) (ha : allOpen c ts tb = []) : J.scoresB c ts tb (frozenU c) = J.scoresB c ts τ (frozenU c) := by
  unfold J.scoresB
  refine List.map_congr_left fun t ht => h.score ot ha (fun k hk => ?_) t
  have ht := List.mem_range.mp ht
  have h1 : untsAt (frozenU c) t = List.replicate c.tasks.length c.frozen := by
    unfold untsAt frozenU
    rw [List.getD_eq_getElem?_getD, List.getElem?_replicate, if_pos ht]
    rfl
  rw [h1]
  unfold untAt
  rw [List.getD_eq_getElem?_getD, List.getElem?_replicate, if_pos hk]
  exact oc.frozen
theorem keeps_fill (tm : Nat → Bool) (b : Bool) : Keeps tb (fillT c ts tm b tb) := fun n t v h => by
  unfold fillT
  rw [h]
theorem Keeps.trans {σ : Nat → Nat → Option Bool} (h1 : Keeps tb τ) (h2 : Keeps τ σ) : Keeps tb σ := fun n t v h => h2 n t v (h1 n t v h)
theorem keeps_far (b : Bool) (t : Nat) : Keeps tb (farT c ts b tb t) := (keeps_fill _ _).trans (keeps_fill _ _)
/-- nothing open: what could be is what is -/
theorem ext_same (ot : TriesOk c ts) (ha : allOpen c ts tb = []) : extL c ts tb = (List.range c.teams).map fun t => (placeT c ts tb t, placeT c ts tb t) := by
  unfold extL
  refine List.map_congr_left fun t _ => ?_
  rw [← (keeps_far (c := c) (ts := ts) (tb := tb) true t).place ot ha t, ← (keeps_far (c := c) (ts := ts) (tb := tb) false t).place ot ha t]
end
/-! #### works, all different -/
def wkL (ws : List Work) : List (Nat × Nat) := ws.filterMap id
theorem wkL_mem {ws : List Work} {x : Nat × Nat} : x ∈ wkL ws ↔ some x ∈ ws := by
  unfold wkL
  rw [List.mem_filterMap]
  exact ⟨fun ⟨w, h, e⟩ => by rw [← e]; exact h, fun h => ⟨_, h, rfl⟩⟩
theorem wkL_in : ∀ {ws : List Work} {j : Nat} {x : Nat × Nat}, ws[j]? = some none → (wkL (ws.set j (some x))).Perm (x :: wkL ws)
  | [], _, _, h => by cases h
  | w :: ws, 0, x, h => by
    have e : w = none := Option.some.inj h
    subst e
    exact List.Perm.refl _
  | w :: ws, j + 1, x, h => by
    have ih := wkL_in (ws := ws) (j := j) (x := x) h
    cases w with
    | none => exact ih
    | some y => exact (List.Perm.cons y ih).trans (List.Perm.swap x y _)
theorem wkL_out : ∀ {ws : List Work} {j : Nat} {x : Nat × Nat}, ws[j]? = some (some x) → (wkL ws).Perm (x :: wkL (ws.set j none))
  | [], _, _, h => by cases h
  | w :: ws, 0, x, h => by
    have e : w = some x := Option.some.inj h
    subst e
    exact List.Perm.refl _
  | w :: ws, j + 1, x, h => by
    have ih := wkL_out (ws := ws) (j := j) (x := x) h
    cases w with
    | none => exact ih
    | some y => exact (List.Perm.cons y ih).trans (List.Perm.swap x y _)
theorem wkL_off : ∀ (ws : List Work) (j : Nat), (wkL (ws.set j none)).Sublist (wkL ws)
  | [], _ => List.Sublist.refl _
  | w :: ws, 0 => by
    cases w with
    | none => exact List.Sublist.refl _
    | some y => exact List.Sublist.cons y (List.Sublist.refl _)
  | w :: ws, j + 1 => by
    have ih := wkL_off ws j
    cases w with
    | none => exact ih
    | some y => exact List.Sublist.cons₂ y ih
theorem wkL_offW (x : Nat × Nat) : ∀ ws : List Work, (wkL (ws.map (offW x))).Sublist (wkL ws)
  | [] => List.Sublist.refl _
  | w :: ws => by
    have ih := wkL_offW x ws
    cases w with
    | none =>
      have : offW x none = none := by unfold offW; rw [if_neg (fun z => nomatch z)]
      rw [List.map_cons, this]
      exact ih
    | some y =>
      rw [List.map_cons]
      by_cases e : (some y : Work) = some x
      · have : offW x (some y) = none := by unfold offW; rw [if_pos e]
        rw [this]
        exact List.Sublist.cons y ih
      · have : offW x (some y) = some y := by unfold offW; rw [if_neg e]
        rw [this]
        exact List.Sublist.cons₂ y ih
theorem wkL_mend (ts : List Try) (k t : Nat) : ∀ (i : Nat) (ws : List Work), (wkL (mendW ts k t i ws)).Sublist (wkL ws)
  | 0, ws => List.Sublist.refl _
  | i + 1, ws => by
    have h := wkL_mend ts k t i ws
    show (wkL (if (tryAt ts i).2.1 = k then (mendW ts k t i ws).map (offW (i, t)) else mendW ts k t i ws)).Sublist _
    split
    · exact (wkL_offW _ _).trans h
    · exact h
theorem wkL_repl (n : Nat) : wkL (List.replicate n none) = [] := by
  unfold wkL
  induction n with
  | zero => rfl
  | succ n ih => rw [List.replicate_succ]; exact ih
/-- a hall on its way through the tries, told by truths -/
structure Goes (c : Con) (tr : List Try) (τ : Nat → Nat → Option Bool) (s : Hs) (left : List Try) : Prop where
  c : s.c = c
  split : s.ts ++ left = tr
  ok : s.Ok
  truth : ∀ v ∈ s.us, τ v.1 v.2.1 = some v.2.2
  nd : (wkL s.ws).Nodup
  ap : ∀ x ∈ wkL s.ws, x ∉ vpos s.us
section
variable {c : Con} {tr left : List Try} {τ : Nat → Nat → Option Bool} {s : Hs}
theorem goes_0 (oc : c.Ok) (tr : List Try) (τ : Nat → Nat → Option Bool) {n : Nat} (hn : 1 ≤ n ∧ n ≤ 5) : Goes c tr τ (hs0 c n) tr := ⟨rfl, rfl, hs0_ok oc hn, (fun _ h => nomatch h), by show (wkL (List.replicate n none)).Nodup; rw [wkL_repl]; exact .nil, fun x h => by
  have h : x ∈ wkL (List.replicate n none) := h
  rw [wkL_repl] at h
  cases h⟩
theorem Goes.time (ot : TriesOk c tr) {t : Try} (g : Goes c tr τ s (t :: left)) : lastT s.ts ≤ t.2.2 ∧ TrOk c t ∧ s.ts.length < 200 := by
  have hs := g.split
  have ht : t ∈ tr := by rw [← hs]; exact List.mem_append_right _ List.mem_cons_self
  refine ⟨?_, ot.ok t ht, ?_⟩
  · unfold lastT
    cases q : s.ts.getLast? with
    | none => exact Nat.zero_le _
    | some u =>
      have hr := ot.rise
      rw [← hs] at hr
      exact (List.pairwise_append.mp hr).2.2 u (List.mem_of_getLast? q) t List.mem_cons_self
  · have := ot.len
    rw [← hs, List.length_append, List.length_cons] at this
    omega
theorem Goes.offer (ot : TriesOk c tr) {t : Try} (g : Goes c tr τ s (t :: left)) : Goes c tr τ (s.offer t.1 t.2.1 t.2.2) left := by
  obtain ⟨h1, h2, h3⟩ := g.time ot
  refine ⟨g.c, ?_, g.ok.offer (by rw [g.c]; exact h2.team) (by rw [g.c]; exact h2.task) h1 h2.time h3, g.truth, g.nd, g.ap⟩
  show (s.ts ++ [(t.1, t.2.1, t.2.2)]) ++ left = tr
  rw [List.append_assoc]
  exact g.split
theorem Goes.take {j : Nat} (g : Goes c tr τ s left) (h : s.ws[j]? = some none) : Goes c tr τ (s.take j) left := by
  have ok := g.ok.take j
  unfold Hs.take at ok ⊢
  split
  · exact g
  · rename_i x r e
    rw [e] at ok
    have hx : x ∈ s.free := by rw [e]; exact List.mem_cons_self
    obtain ⟨k1, k2⟩ := List.mem_filter.mp hx
    have hw : x ∉ wkL s.ws := fun z => by
      rw [decide_eq_true (wkL_mem.mp z)] at k2
      cases k2
    have hu : x ∉ vpos s.us := fun z => by
      have := (mem_open k1).2
      obtain ⟨u, hu, eu⟩ := List.mem_map.mp z
      have h2 := (tbOf_some g.ok.ov.once (n := u.1) (t := u.2.1) (b := u.2.2)).mpr hu
      rw [← eu] at this
      rw [h2] at this
      cases this
    have hp := wkL_in (x := x) h
    refine ⟨g.c, g.split, ok, g.truth, hp.nodup_iff.mpr (List.nodup_cons.mpr ⟨hw, g.nd⟩), fun y hy => ?_⟩
    rcases List.mem_cons.mp (hp.mem_iff.mp hy) with z | z
    · rw [z]; exact hu
    · exact g.ap y z
theorem Goes.tell {j : Nat} {x : Nat × Nat} {b : Bool} (g : Goes c tr τ s left) (h : s.ws[j]? = some (some x)) (hb : τ x.1 x.2 = some b) : Goes c tr τ (s.tell j x b) left ∧ (s.tell j x b).us.length = s.us.length + 1 := by
  have hp := wkL_out h
  have hx : x ∉ vpos s.us := g.ap x (hp.mem_iff.mpr List.mem_cons_self)
  have hn := List.nodup_cons.mp (hp.nodup_iff.mp g.nd)
  have hus : putV s.us x b = s.us ++ [(x.1, x.2, b)] := if_neg hx
  refine ⟨⟨g.c, g.split, g.ok.tell h b, fun v hv => ?_, hn.2, fun y hy z => ?_⟩, ?_⟩
  · have hv : v ∈ putV s.us x b := hv
    rw [hus] at hv
    rcases List.mem_append.mp hv with hv | hv
    · exact g.truth v hv
    · rw [List.mem_singleton.mp hv]; exact hb
  · have z : y ∈ vpos (putV s.us x b) := z
    rw [vpos_putV, if_neg hx] at z
    rcases List.mem_append.mp z with z | z
    · exact g.ap y (hp.mem_iff.mpr (List.mem_cons_of_mem _ hy)) z
    · rw [List.mem_singleton.mp z] at hy
      exact hn.1 hy
  · show (putV s.us x b).length = _
    rw [hus, List.length_append]
    rfl
theorem Goes.fall (g : Goes c tr τ s left) (j : Nat) : Goes c tr τ (s.fall j) left := ⟨g.c, g.split, g.ok.fall j, g.truth, (wkL_off s.ws j).nodup g.nd, fun y hy => g.ap y ((wkL_off s.ws j).subset hy)⟩
theorem Goes.mend (g : Goes c tr τ s left) (k t : Nat) : Goes c tr τ (s.mend k t) left := ⟨g.c, g.split, g.ok.mend k t, fun v hv => g.truth v ((mendU_sub _ _ _ _ _).subset hv), (wkL_mend s.ts k t s.ts.length s.ws).nodup g.nd, fun y hy z => by
  have h1 := (wkL_mend s.ts k t s.ts.length s.ws).subset hy
  obtain ⟨u, hu, e⟩ := List.mem_map.mp z
  exact g.ap y h1 (List.mem_map.mpr ⟨u, (mendU_sub _ _ _ _ _).subset hu, e⟩)⟩
/-- told and under way: never more than there are -/
theorem Goes.few (g : Goes c tr τ s left) : s.us.length + (wkL s.ws).length ≤ (allTr s.c s.ts).length := by
  have hn : (vpos s.us ++ wkL s.ws).Nodup := List.nodup_append.mpr ⟨g.ok.ov.once, g.nd, fun a ha b hb z => g.ap b hb (z ▸ ha)⟩
  have h := sub_len (l := vpos s.us ++ wkL s.ws) (m := allTr s.c s.ts) hn fun x hx => by
    rcases List.mem_append.mp hx with hx | hx
    · obtain ⟨u, hu, rfl⟩ := List.mem_map.mp hx
      exact mem_trialsUpTo.mpr (g.ok.ov.ok u hu)
    · exact mem_trialsUpTo.mpr (g.ok.wk x (wkL_mem.mp hx))
  rw [List.length_append] at h
  unfold vpos at h
  rw [List.length_map] at h
  exact h
theorem Goes.few20 (g : Goes c tr τ s left) (hl : tr.length ≤ 10) : s.us.length + (wkL s.ws).length ≤ 200 := by
  have h1 := g.few
  have h2 : (allTr s.c s.ts).length ≤ 20 * s.ts.length := trialsUpTo_len g.ok.oc g.ok.ot (Nat.le_refl _)
  have h3 : s.ts.length + left.length = tr.length := by rw [← g.split, List.length_append]
  omega
end

end

section
variable [Tbs] {P : Program} {w : World} {K : PySem.W.Frag} {mg : Str → Option Value} {base : Heap}
/-! ### how long it takes -/
theorem pick_d {n j0 : Nat} (i : Nat) (h : j0 < n) : ∃ d, d < n ∧ (i + d) % n = j0 := by
  have hn : 0 < n := by omega
  have h1 := Nat.mod_lt i hn
  have h2 := Nat.div_add_mod i n
  by_cases hj : i % n ≤ j0
  · refine ⟨j0 - i % n, by omega, ?_⟩
    have : i + (j0 - i % n) = n * (i / n) + j0 := by omega
    rw [this, Nat.mul_add_mod, Nat.mod_eq_of_lt h]
  · refine ⟨j0 + n - i % n, by omega, ?_⟩
    have : i + (j0 + n - i % n) = n * (i / n + 1) + j0 := by rw [Nat.mul_add, Nat.mul_one]; omega
    rw [this, Nat.mul_add_mod, Nat.mod_eq_of_lt h]
def psi (s : Hs) (left : List Try) : Nat := left.length + 400 - (2 * s.us.length + (wkL s.ws).length)
def Due (n : Nat) (s : Hs) (left : List Try) (i : Nat) : Prop := ∃ d, d < n ∧ (left = [] → s.free = [] → (∃ x, x ∈ wkL s.ws) → ∃ x, s.ws[(i + d) % n]? = some (some x)) ∧ i + n * psi s left + d ≤ 2500
theorem due_pick {n : Nat} {s : Hs} (hw : s.ws.length = n) (hn : 1 ≤ n) (i : Nat) : ∃ d, d < n ∧ ((∃ x, x ∈ wkL s.ws) → ∃ x, s.ws[(i + d) % n]? = some (some x)) := by
  by_cases h : ∃ x, x ∈ wkL s.ws
  · obtain ⟨x, hx⟩ := h
    obtain ⟨j, hj⟩ := List.getElem?_of_mem (wkL_mem.mp hx)
    have hjl := (List.getElem?_eq_some_iff.mp hj).1
    obtain ⟨d, h1, h2⟩ := pick_d (n := n) (j0 := j) i (by omega)
    exact ⟨d, h1, fun _ => ⟨x, by rw [h2]; exact hj⟩⟩
  · exact ⟨0, by omega, fun z => absurd z h⟩
theorem due_start {n : Nat} {s : Hs} {left : List Try} (hw : s.ws.length = n) (hn : 1 ≤ n ∧ n ≤ 5) (hl : left.length ≤ 10) : Due n s left 400 := by
  obtain ⟨d, h1, h2⟩ := due_pick hw hn.1 400
  refine ⟨d, h1, fun _ _ => h2, ?_⟩
  have h3 : psi s left ≤ 410 := by unfold psi; omega
  have h4 : n * psi s left ≤ 5 * 410 := Nat.mul_le_mul hn.2 h3
  omega
theorem due_step {n i : Nat} {s s' : Hs} {left left' : List Try} (h : Due n s left i) (hw : s'.ws.length = n) (hn : 1 ≤ n) (hp : psi s' left' + 1 ≤ psi s left) : Due n s' left' (i + 1) := by
  obtain ⟨d, h1, _, h3⟩ := h
  obtain ⟨d', k1, k2⟩ := due_pick hw hn (i + 1)
  refine ⟨d', k1, fun _ _ => k2, ?_⟩
  have h4 := Nat.mul_le_mul_left n hp
  rw [Nat.mul_add, Nat.mul_one] at h4
  omega
theorem due_wait {n i : Nat} {s : Hs} (h : Due n s [] i) (hf : s.free = []) (hx : ∃ x, x ∈ wkL s.ws) (hj : s.ws[i % n]? = some none) : Due n s [] (i + 1) := by
  obtain ⟨d, h1, h2, h3⟩ := h
  obtain ⟨x, k⟩ := h2 rfl hf hx
  cases d with
  | zero =>
    rw [Nat.add_zero, hj] at k
    cases k
  | succ d =>
    refine ⟨d, by omega, fun _ _ _ => ⟨x, ?_⟩, by omega⟩
    rw [show i + 1 + d = i + (d + 1) by omega]
    exact k
theorem due_end {n : Nat} {s : Hs} {left : List Try} (h : Due n s left 4000) : False := by
  obtain ⟨d, _, _, h3⟩ := h
  omega
section
variable {c : Con} {tr left : List Try} {τ : Nat → Nat → Option Bool} {s : Hs}
theorem psi_offer (h : s.us.length + (wkL s.ws).length ≤ 200) (t : Try) : psi (s.offer t.1 t.2.1 t.2.2) left + 1 ≤ psi s (t :: left) := by
  show (left.length + 400 - (2 * s.us.length + (wkL s.ws).length)) + 1 ≤ (left.length + 1) + 400 - (2 * s.us.length + (wkL s.ws).length)
  omega
theorem psi_take {j : Nat} (g : Goes c tr τ s left) (hl : tr.length ≤ 10) (h : s.ws[j]? = some none) (hf : s.free ≠ []) : psi (s.take j) left + 1 ≤ psi s left := by
  have h2 := (g.take h).few20 hl
  cases q : s.free with
  | nil => exact absurd q hf
  | cons x r =>
    have e : s.take j = { s with ws := s.ws.set j (some x), es := s.es ++ [.take j x.1 x.2] } := by unfold Hs.take; rw [q]
    rw [e] at h2 ⊢
    have hp : (wkL (s.ws.set j (some x))).length = (wkL s.ws).length + 1 := (wkL_in h).length_eq
    have h2 : s.us.length + (wkL (s.ws.set j (some x))).length ≤ 200 := h2
    show (left.length + 400 - (2 * s.us.length + (wkL (s.ws.set j (some x))).length)) + 1 ≤ left.length + 400 - (2 * s.us.length + (wkL s.ws).length)
    omega
theorem psi_tell {j : Nat} {x : Nat × Nat} {b : Bool} (g : Goes c tr τ s left) (hl : tr.length ≤ 10) (h : s.ws[j]? = some (some x)) (hb : τ x.1 x.2 = some b) : psi (s.tell j x b) left + 1 ≤ psi s left := by
  obtain ⟨g2, hu⟩ := g.tell h hb
  have h2 := g2.few20 hl
  have hp : (wkL s.ws).length = (wkL (s.ws.set j none)).length + 1 := (wkL_out h).length_eq
  have h2 : (s.tell j x b).us.length + (wkL (s.ws.set j none)).length ≤ 200 := h2
  show (left.length + 400 - (2 * (s.tell j x b).us.length + (wkL (s.ws.set j none)).length)) + 1 ≤ left.length + 400 - (2 * s.us.length + (wkL s.ws).length)
  omega
/-- nobody has any and nothing is free: nothing matters any more -/
theorem Goes.done (g : Goes c tr τ s []) (hf : s.free = []) (hw : wkL s.ws = []) : s.ts = tr ∧ allOpen c tr (tbOf s.us) = [] ∧ Keeps (tbOf s.us) τ := by
  have ht : s.ts = tr := by rw [← g.split, List.append_nil]
  refine ⟨ht, ?_, fun n t v h => ?_⟩
  · rw [← g.c, ← ht]
    unfold Hs.free at hf
    refine List.eq_nil_iff_forall_not_mem.mpr fun x hx => ?_
    have := List.filter_eq_nil_iff.mp hf x hx
    have hn : ¬ some x ∈ s.ws := fun z => by
      have := wkL_mem.mpr z
      rw [hw] at this
      cases this
    rw [decide_eq_false hn] at this
    exact this rfl
  · have := (tbOf_some g.ok.ov.once).mp h
    exact g.truth _ this
end

end

section
variable [Tbs] {P : Program} {w : World} {K : PySem.W.Frag} {mg : Str → Option Value} {base : Heap}
/-! ### a hall and the tries that are left -/
structure LGo (K : PySem.W.Frag) (Ga Ma Ha : Hp) (p : Addr) (G M H : Hp) (as : List Addr) (h : HA) (s : Hs) (ll : Addr) (left : List Try) : Prop where
  c : Chg Ga Ma Ha [p] G M H as
  hp : p ∈ as
  dm : DiceM M p
  p1 : p ∉ h.all
  i1 : ∀ b ∈ h.all, b ∈ as
  a : HallAt K G M h s
  lm : ∃ xs, M ll = some (.lst xs) ∧ RpA K G xs (left.map trD)
  li : ll ∈ as
  ln : ll ∉ h.all
  lp : ll ≠ p
section
variable {Ga Ma Ha G M H G1 M1 H1 : Hp} {as as1 : List Addr} {h : HA} {s s' : Hs} {p ll : Addr} {left : List Try} {σ : L2.St} {to te : TE} {ar : TA} {m : Str} {R : Hs → List D → D → Hs → Prop} {ds : List D} {r : D}
theorem LGo.then (x : LGo K Ga Ma Ha p G M H as h s ll left) (s' : Step G H G1 H1) : LGo K Ga Ma Ha p G1 M H1 as h s ll left := ⟨x.c.then s', x.hp, x.dm, x.p1, x.i1, x.a.exx s'.g, let ⟨xs, h1, r⟩ := x.lm; ⟨xs, h1, r.ex s'.g⟩, x.li, x.ln, x.lp⟩
theorem LGo.on (x : LGo K Ga Ma Ha p G M H as h s ll left) (e : Ex G G1) (c : Chg Ga Ma Ha [p] G1 M H1 as) : LGo K Ga Ma Ha p G1 M H1 as h s ll left := ⟨c, x.hp, x.dm, x.p1, x.i1, x.a.exx e, let ⟨xs, h1, r⟩ := x.lm; ⟨xs, h1, r.ex e⟩, x.li, x.ln, x.lp⟩
theorem LGo.dice (x : LGo K Ga Ma Ha p G M H as h s ll left) (e : Ex G G1) (c : Chg Ga Ma Ha [p] G1 M1 H1 as) (d : DiceM M1 p) (hM : ∀ b, b ≠ p → M1 b = M b) : LGo K Ga Ma Ha p G1 M1 H1 as h s ll left :=
  ⟨c, x.hp, d, x.p1, x.i1, x.a.grow e fun b hb => hM b fun z => x.p1 (z ▸ hb), let ⟨xs, h1, r⟩ := x.lm; ⟨xs, by rw [hM _ x.lp]; exact h1, r.ex e⟩, x.li, x.ln, x.lp⟩
/-- a method of the hall -/
theorem LGo.call (x : LGo K Ga Ma Ha p G M H as h s ll left) (ho : EvO to σ (over G M) h.o) (hl : ∀ x1 x2 x3 x4 x5, (hlFs x1 x2 x3 x4 x5).lookup m = none) (ha : EvAs K ar σ (over G M) ds) (hd : D.tupOA ds = true) (hR : R s ds r s') (Q : VK)
    (k : ∀ v G1 M1 H1 as1 (h' : HA), h'.o = h.o → Ex G G1 → LGo K Ga Ma Ha p G1 M1 H1 as1 h' s' ll left → Rp K G1 v r → Q v H1) : tMeth (cA K "Hall") m (spHm K R) [] E0 to ar σ H Q := by
  obtain ⟨vc, h1, pp⟩ := x.a.ex
  refine m_callM x.c ho h1 (hl _ _ _ _ _) ha hd Q fun vs G1 H1 e1 c1 rv => ?_
  refine ⟨G1, M, h, s, vs, ds, r, s', by rw [List.append_nil], c1.ii, c1.o, x.a.exx e1, rv, hR, fun v G2 M2 H2 h' ho' e2 c2 a2 rr => ?_⟩
  have keep : ∀ b u, M b = some u → b ∉ h.all → M2 b = some u ∧ b ∉ h'.all := fun b u hb hn => ⟨c2.f b u hb hn, fun z => by
    rcases c2.n b z with y | y
    · exact hn y
    · rw [c1.o.h b u hb] at y; cases y⟩
  have c3 := c1.trans (c2.wide (as1 := as) x.i1)
  obtain ⟨ms, hms, ok⟩ := x.dm
  obtain ⟨k1, k2⟩ := keep p _ hms x.p1
  obtain ⟨xs, hxs, rx⟩ := x.lm
  obtain ⟨k3, k4⟩ := keep ll _ hxs x.ln
  exact k v G2 M2 H2 _ h' ho' (e1.trans e2) ⟨c3, List.mem_append_right _ x.hp, ⟨ms, k1, ok⟩, k2, fun b hb => List.mem_append_left _ hb, a2, ⟨xs, k3, rx.ex (e1.trans e2)⟩, List.mem_append_right _ x.li, k4, x.lp⟩ rr
theorem LGo.fin (x : LGo K Ga Ma Ha p G M H as h s ll left) {vs : List V} (rv : RpA K G vs ds) (hR : R s ds r s') (Q : VK)
    (k : ∀ v G1 M1 H1 as1 (h' : HA), h'.o = h.o → Ex G G1 → LGo K Ga Ma Ha p G1 M1 H1 as1 h' s' ll left → Rp K G1 v r → Q v H1) : spHm K R (.ref h.o :: (vs ++ [])) H Q E0 := by
  refine ⟨G, M, h, s, vs, ds, r, s', by rw [List.append_nil], x.c.ii, x.c.o, x.a, rv, hR, fun v G2 M2 H2 h' ho' e2 c2 a2 rr => ?_⟩
  have keep : ∀ b u, M b = some u → b ∉ h.all → M2 b = some u ∧ b ∉ h'.all := fun b u hb hn => ⟨c2.f b u hb hn, fun z => by
    rcases c2.n b z with y | y
    · exact hn y
    · rw [x.c.o.h b u hb] at y; cases y⟩
  have c3 := x.c.trans (c2.wide (as1 := as) x.i1)
  obtain ⟨ms, hms, ok⟩ := x.dm
  obtain ⟨k1, k2⟩ := keep p _ hms x.p1
  obtain ⟨xs, hxs, rx⟩ := x.lm
  obtain ⟨k3, k4⟩ := keep ll _ hxs x.ln
  exact k v G2 M2 H2 _ h' ho' e2 ⟨c3, List.mem_append_right _ x.hp, ⟨ms, k1, ok⟩, k2, fun b hb => List.mem_append_left _ hb, a2, ⟨xs, k3, rx.ex e2⟩, List.mem_append_right _ x.li, k4, x.lp⟩ rr
theorem LGo.start (x : LGo K Ga Ma Ha p G M H as h s ll left) (ho : EvO to σ (over G M) h.o) (hl : ∀ x1 x2 x3 x4 x5, (hlFs x1 x2 x3 x4 x5).lookup m = none) (Q : VK)
    (k : ∀ G1 H1, Ex G G1 → LGo K Ga Ma Ha p G1 M H1 as h s ll left → ar σ H1 fun vs H2 => spHm K R (.ref h.o :: (vs ++ [])) H2 Q E0) : tMeth (cA K "Hall") m (spHm K R) [] E0 to ar σ H Q := by
  obtain ⟨vc, h1, pp⟩ := x.a.ex
  exact EvO.own ho x.c _ fun G1 H1 e1 c1 => ⟨h.o, h.dx, _, rfl, c1.o.h _ _ h1, hl _ _ _ _ _, k G1 H1 e1 (x.on e1 c1)⟩
theorem tDrop_go {Dn : Ends} (h : te σ H fun _ H1 => Dn.nx σ H1) : tDrop te Dn σ H := h
/-- the tries left, read -/
theorem LGo.left_ (x : LGo K Ga Ma Ha p G M H as h s ll left) {j : Nat} (hj : σ[j]? = some (some (.ref ll))) : EvD K (tVar j) σ (over G M) (.lst (left.map trD)) := by
  obtain ⟨xs, h1, r⟩ := x.lm
  exact e_var hj (.lst (over_some h1) (r.ex x.c.o.gg))
end
theorem rpA_cons {G : Hp} {xs : List V} {d : D} {ds : List D} (h : RpA K G xs (d :: ds)) : ∃ y ys, xs = y :: ys ∧ Rp K G y d ∧ RpA K G ys ds := by
  cases h with
  | cons a b => exact ⟨_, _, rfl, a, b⟩
theorem filt_one {n j : Nat} (q : Nat → Bool) : ((List.range n).filter q).filter (fun i => decide (i = j)) = if j < n ∧ q j = true then [j] else [] := by
  induction n with
  | zero => rw [if_neg (fun z => by omega)]; rfl
  | succ n ih =>
    rw [List.range_succ, List.filter_append, List.filter_append, ih]
    by_cases hj : j = n
    · subst hj
      rw [if_neg (fun z => by omega), List.nil_append]
      cases e : q j with
      | true => rw [if_pos ⟨by omega, rfl⟩]; simp [e]
      | false => rw [if_neg (fun z => nomatch z.2)]; simp [e]
    · have h2 : (([n].filter q).filter fun i => decide (i = j)) = [] := by
        cases e : q n with
        | true => simp [e]; omega
        | false => simp [e]
      rw [h2, List.append_nil]
      by_cases hc : j < n ∧ q j = true
      · rw [if_pos hc, if_pos ⟨by omega, hc.2⟩]
      · rw [if_neg hc, if_neg (fun z => hc ⟨by omega, z.2⟩)]
theorem and_go {ta : TE} {u : TT} {tu tw : TS} {Dn : Ends} {σ : L2.St} {H : Hp} (h : ta σ H fun x H1 => V.non = V.non ∧ ∃ k, V.bl (decide (x = V.non)) = V.bl k ∧ (if k = true then u σ H1 (fun b H2 => if b = true then tu Dn σ H2 else tw Dn σ H2) else (if false = true then tu Dn σ H1 else tw Dn σ H1))) : tIfS (tAnd (tTest (tOp (fun x y H Q => y = .non ∧ Q (.bl (decide (x = .non))) H) ta (tC .non))) u) tu tw Dn σ H := h
theorem had_wk (ws : List Work) : hadL ws = [] ↔ wkL ws = [] := by
  constructor
  · intro h
    refine List.eq_nil_iff_forall_not_mem.mpr fun x hx => ?_
    obtain ⟨j, hj⟩ := List.getElem?_of_mem (wkL_mem.mp hx)
    have hjl := (List.getElem?_eq_some_iff.mp hj).1
    have hg : ws.getD j none = some x := by rw [List.getD_eq_getElem?_getD, hj]; rfl
    unfold hadL pick at h
    have h2 := List.filter_eq_nil_iff.mp (List.map_eq_nil_iff.mp h) j (List.mem_range.mpr hjl)
    rw [hg] at h2
    exact h2 rfl
  · intro h
    unfold hadL pick
    refine List.map_eq_nil_iff.mpr (List.filter_eq_nil_iff.mpr fun j hj z => ?_)
    have hjl := List.mem_range.mp hj
    cases q : ws.getD j none with
    | none => rw [q] at z; cases z
    | some x =>
      have : x ∈ wkL ws := wkL_mem.mpr (by rw [← q]; exact List.mem_of_getElem? (wk_at hjl))
      rw [h] at this
      cases this
theorem hadL_ok (ws : List Work) : (D.lst (hadL ws)).ok = true := ok_lows fun d hd => by
  obtain ⟨j, _, rfl⟩ := List.mem_map.mp hd
  unfold hadD
  split <;> rfl

end

section
variable [Tbs] {P : Program} {w : World} {K : PySem.W.Frag} {mg : Str → Option Value} {base : Heap}
/-! ### a hall goes through all tries -/
theorem due_next {n i : Nat} {s s' : Hs} {left left' : List Try} (hd : 400 ≤ i → Due n s left i) (hw : s'.ws.length = n) (hn : 1 ≤ n ∧ n ≤ 5) (hl : left'.length ≤ 10) (hp : psi s' left' + 1 ≤ psi s left) : 400 ≤ i + 1 → Due n s' left' (i + 1) := fun z => by
  by_cases h : 400 ≤ i
  · exact due_step (hd h) hw hn.1 hp
  · have : i + 1 = 400 := by omega
    rw [this]
    exact due_start hw hn hl
theorem Goes.left10 {c : Con} {tr left : List Try} {τ : Nat → Nat → Option Bool} {s : Hs} (g : Goes c tr τ s left) (h : tr.length ≤ 10) : left.length ≤ 10 := by
  have := g.split
  rw [← this, List.length_append] at h
  omega
theorem take_len {s : Hs} {j : Nat} : (s.take j).ws.length = s.ws.length := by
  unfold Hs.take
  split
  · rfl
  · exact List.length_set
/-- the truth of a work -/
theorem truth_at {c : Con} {tr left : List Try} {ev : List Ver} {s : Hs} {x : Nat × Nat} (hev : vpos ev = allTr c tr) (ot : TriesOk c tr) (g : Goes c tr (tbOf ev) s left) (h : some x ∈ s.ws) : ∃ b, tbOf ev x.1 x.2 = some b ∧ valV (vkD ev) (natK x) = some (.bl b) := by
  have hnd : (vpos ev).Nodup := by
    rw [hev]
    exact (rise_trials c tr tr.length).nodup
  obtain ⟨k1, k2⟩ := g.ok.wk x h
  have hx : x ∈ vpos ev := by
    rw [hev]
    refine mem_trialsUpTo.mpr ?_
    have hs := g.split
    rw [g.c] at k2
    have ht : tryAt tr x.1 = tryAt s.ts x.1 := by
      unfold tryAt
      rw [← hs, List.getD_eq_getElem?_getD, List.getD_eq_getElem?_getD, List.getElem?_append_left k1]
    refine ⟨by rw [← hs, List.length_append]; omega, ?_⟩
    show x.2 < c.size (tryAt tr x.1).2.1
    rw [ht]
    exact k2
  obtain ⟨v, hv, rfl⟩ := List.mem_map.mp hx
  exact ⟨v.2.2, (tbOf_some hnd).mpr hv, valV_at hnd hv⟩
abbrev s__law_goes : Stmt := top 82
abbrev N__law_goes : List Str := ["_law_d", "_law_contest_here", "_law_tries_here", "_law_truth_here", "_law_judges", "_law_hall", "_law_left", "_law_turn", "_law_judge", "_law_kind", "_law_one", "_law_task", "_law_mine", "_law_work"]
abbrev P__law_goes : List Str := ["_law_d", "_law_contest_here", "_law_tries_here", "_law_truth_here", "_law_judges"]
theorem sc__law_goes : FnScope N__law_goes P__law_goes (defScope s__law_goes) := ⟨rfl, rfl, rfl, by decide +kernel, rfl, by decide +kernel, by decide +kernel⟩

def sp__law_goes (K : PySem.W.Frag) : Sp := fun vs H Q _ => ∃ p G M v1 v2 v3 c tr ev n, vs = [.ref p, v1, v2, v3, .int (n : Nat)] ∧ Ex G H ∧ Owns M G H ∧ DiceM M p ∧ Rp K G v1 c.d ∧ Rp K G v2 (trsD tr) ∧ Rp K G v3 (.tab (vkD ev)) ∧ c.Ok ∧ TriesOk c tr ∧ tr.length ≤ 10 ∧ vpos ev = allTr c tr ∧ 1 ≤ n ∧ n ≤ 5 ∧
  ∀ G' M' H' as' h s, Ex G G' → Chg G M H [p] G' M' H' as' → p ∈ as' → DiceM M' p → HallAt K G' M' h s → (∀ b ∈ h.all, b ∈ as') → p ∉ h.all → s.c = c → s.ts = tr → Keeps (tbOf s.us) (tbOf ev) → allOpen c tr (tbOf s.us) = [] → Q (.ref h.o) H'
theorem ok__law_goes {f : Addr} {fd : FuncData} (F : Fun K "_law_goes" "_law_goes" s__law_goes f fd) (T : Tx K mg) (d_Hall : Dc P w K mg base 5 "Hall" P_Hall_init (sp_Hall_init K)) (d_Hall_fall : Dm P w K mg base 3 "Hall" "fall" P_Hall_fall (sp_Hall_fall K)) (d_Hall_had : Dm P w K mg base 1 "Hall" "had" P_Hall_had (sp_Hall_had K)) (d_Hall_mend : Dm P w K mg base 2 "Hall" "mend" P_Hall_mend (sp_Hall_mend K)) (d_Hall_offer : Dm P w K mg base 2 "Hall" "offer" P_Hall_offer (sp_Hall_offer K)) (d_Hall_take : Dm P w K mg base 8 "Hall" "take" P_Hall_take (sp_Hall_take K)) (d_Hall_tell : Dm P w K mg base 3 "Hall" "tell" P_Hall_tell (sp_Hall_tell K)) (d__law_off : Dk P w K mg base 1 "_law_off" P__law_off (sp__law_off K)) (d__law_size : Dk P w K mg base 1 "_law_size" P__law_size (sp__law_size K)) : FnOk P w K mg base CX0 9 f fd P__law_goes (sp__law_goes K) := by
  refine F.ok sc__law_goes (fun vs H Q E h => ?_) (fun cdv A outer s H vs Q E hr h => ?_)
  · obtain ⟨p, G, M, v1, v2, v3, c, tr, ev, n, rfl, e, ow, dm, r1, r2, r3, oc, ot, hl10, hev, hn1, hn5, q⟩ := h
    first | rfl | exact congrArg (· + 1) ra.len | exact congrArg (· + 2) ra.len
  · obtain ⟨p, G, M, v1, v2, v3, c, tr, ev, n, rfl, e, ow, dm, r1, r2, r3, oc, ot, hl10, hev, hn1, hn5, q⟩ := h
    refine ⟨_, (pss_cons (ps_set (i := 5) sc__law_goes.nd rfl (by first | exact Or.inl rfl | exact Or.inr rfl) (pe_mk d_Hall (hr.mono (by decide)) (by rfl) (pa_cons (pv 1) (pa_cons (pv 4) pa_nil))))
    (pss_cons (ps_set (i := 6) sc__law_goes.nd rfl (by first | exact Or.inl rfl | exact Or.inr rfl) (pe_callTy (call_listK K rfl) (by rfl) T.n_list (by decide +kernel) (pa_cons (pv 2) pa_nil)))
    (pss_cons (ps_for PassesOwn.never rfl (pi_range1 (by rfl) T.n_range (pa_cons pe_int pa_nil)) (pg_name (i := 7) sc__law_goes.nd rfl (by first | exact Or.inl rfl | exact Or.inr rfl)) (pss_cons (ps_set (i := 8) sc__law_goes.nd rfl (by first | exact Or.inl rfl | exact Or.inr rfl) (pe_ifExp (pt_cmpR op_lt (pv 7) pe_int (nomark _)) (pe_fn d__law_off (hr.mono (by decide)) (by rfl) (pa_cons (pv 0) (pa_cons (pv 4) pa_nil))) (pe_op op_mod (pv 7) (pv 4))))
    (pss_cons (ps_set (i := 9) sc__law_goes.nd rfl (by first | exact Or.inl rfl | exact Or.inr rfl) (pe_ifExp (pt_cmpR op_lt (pv 7) pe_int (nomark _)) (pe_fn d__law_off (hr.mono (by decide)) (by rfl) (pa_cons (pv 0) (pa_cons pe_int pa_nil))) pe_int))
    (pss_one (ps_if (PW.pt (pw_and (pt_cmpR (op_neK K rfl hr.units) (pv 6) (pe_lst pa_nil) (nomark _)) (pw_and1 (pt_cmpR op_lt (pv 9) pe_int (nomark _))))) (pss_cons (ps_set (i := 10) sc__law_goes.nd rfl (by first | exact Or.inl rfl | exact Or.inr rfl) (pe_bm PySem.F.plainAttrs_list PySem.F.slot_list_pop PySem.F.type_list_pop mt_popAt (pv 6) (pa_cons pe_int pa_nil)))
    (pss_one (ps_expr (pe_me d_Hall_offer (hr.mono (by decide)) (pv 5) (pa_cons (pe_ix (ix_seqK K rfl) (pv 10) pe_int (fun _ _ => rfl)) (pa_cons (pe_ix (ix_seqK K rfl) (pv 10) pe_int (fun _ _ => rfl)) (pa_cons (pe_ix (ix_seqK K rfl) (pv 10) pe_int (fun _ _ => rfl)) pa_nil))))))) (pss_one (ps_if (PW.pt (pw_and (pt_cmpR (op_eqK K rfl hr.units) (pv 9) pe_int (nomark _)) (pw_and1 (pt_cmpR op_lt (pv 7) pe_int (nomark _))))) (pss_one (ps_expr (pe_me d_Hall_fall (hr.mono (by decide)) (pv 5) (pa_cons (pv 8) pa_nil)))) (pss_one (ps_if (PW.pt (pw_and (pt_cmpR (op_eqK K rfl hr.units) (pv 9) pe_int (nomark _)) (pw_and1 (pt_cmpR op_lt (pv 7) pe_int (nomark _))))) (pss_cons (ps_set (i := 11) sc__law_goes.nd rfl (by first | exact Or.inl rfl | exact Or.inr rfl) (pe_fn d__law_off (hr.mono (by decide)) (by rfl) (pa_cons (pv 0) (pa_cons (pe_callB (call_lenK K rfl) (by rfl) T.n_len (by decide +kernel) (pa_cons (pe_ix (ix_seqK K rfl) (pv 1) pe_int (fun _ _ => rfl)) pa_nil)) pa_nil))))
    (pss_one (ps_expr (pe_me d_Hall_mend (hr.mono (by decide)) (pv 5) (pa_cons (pv 11) (pa_cons (pe_fn d__law_off (hr.mono (by decide)) (by rfl) (pa_cons (pv 0) (pa_cons (pe_fn d__law_size (hr.mono (by decide)) (by rfl) (pa_cons (pv 1) (pa_cons (pv 11) pa_nil))) pa_nil))) pa_nil)))))) (pss_cons (ps_setLc (i := 12) (own := [("_law_work", 13)]) (g := gName 13) (tt := _) rfl sc__law_goes.nd rfl rfl (sw_true rfl rfl rfl (by decide +kernel)) (pi_seqK K rfl (pe_me0 d_Hall_had (hr.mono (by decide)) (pv 5))) (blkOk_by (own := [("_law_work", 13)]) (N := N__law_goes) (sc := defScope s__law_goes) (by decide +kernel)) (fun _ _ _ _ _ => (pg_name (i := 13) sc__law_goes.nd rfl (by first | exact Or.inl rfl | exact Or.inr rfl))) (fun _ _ _ _ _ => (pts_one (pt_cmpR (op_eqK K rfl hr.units) (pe_ix (ix_seqK K rfl) (pv 13) pe_int (fun _ _ => rfl)) (pv 8) (nomark _)))) (fun _ _ _ _ _ => (pv 13)))
    (pss_one (ps_if (pt_cmpR (op_neK K rfl hr.units) (pv 12) (pe_lst pa_nil) (nomark _)) (pss_one (ps_expr (pe_me d_Hall_tell (hr.mono (by decide)) (pv 5) (pa_cons (pv 8) (pa_cons (pe_dget (hu_of hr) (pv 3) (pe_slice (sl_seqK K rfl) (pe_ix (ix_seqK K rfl) (pv 12) pe_int (fun _ _ => rfl)) (po_some pe_int) po_none) (fun _ _ => rfl)) pa_nil))))) (pss_one (ps_if (PW.pt (pw_and (pt_cmpR op_isN (pe_me d_Hall_take (hr.mono (by decide)) (pv 5) (pa_cons (pv 8) pa_nil)) pe_non (nomark _)) (pw_and (pt_cmpR (op_eqK K rfl hr.units) (pv 6) (pe_lst pa_nil) (nomark _)) (pw_and1 (pt_cmpR (op_eqK K rfl hr.units) (pe_me0 d_Hall_had (hr.mono (by decide)) (pv 5)) (pe_lst pa_nil) (nomark _)))))) (pss_one (ps_ret (pv 5))) pss_nil))))))))))))))
    (pss_one (ps_ret pe_non))))), ?_⟩
    try dsimp only [cxOf, Cx.nox, Cx.wish]
    have c0 : Chg G M H [p] G M H [p] := Chg.refl e ow
    refine q_mkHall (c := c) (n := n) c0 (a_cons (e_var rfl (r1.ex c0.o.gg)) (a_one (e_var rfl (.int _)))) oc hn1 hn5 fun G1 M1 H1 h e1 c1 a1 keep1 => ?_
    obtain ⟨ms, hms, okd⟩ := dm
    obtain ⟨k1, np1⟩ := keep1 p _ hms
    refine q_asgNew (K := K) (ds := tr.map trD) c1 (f_list (d := trsD tr) (e_var rfl ((r2.ex e1).ex c1.o.gg)) rfl) (tupOA_map (fun _ => rfl) _) fun ll xs G2 H2 e2 hll c2 rx => ?_
    have hMl := c1.ne hll
    have lnh : ll ∉ h.all := fun z => by
      obtain ⟨u, hu⟩ := a1.stand ll z
      rw [hMl] at hu; cases hu
    have lnp : ll ≠ p := fun z => by rw [z, k1] at hMl; cases hMl
    have x2 : LGo K G M H p G2 (upd M1 ll (.lst xs)) H2 (ll :: (h.all ++ [p])) h (hs0 c n) ll tr := ⟨c2, by simp, ⟨ms, by rw [upd_ne (Ne.symm lnp)]; exact k1, okd⟩, np1, fun b hb => by simp [hb], a1.grow e2 fun b hb => upd_ne fun z => lnh (z ▸ hb), ⟨xs, upd_same, rx⟩, List.mem_cons_self, lnh, lnp⟩
    generalize upd M1 ll (.lst xs) = M2 at c2 x2
    have r1 := r1.ex (e1.trans e2)
    have r2 := r2.ex (e1.trans e2)
    have r3 := r3.ex (e1.trans e2)
    have e02 := e1.trans e2
    have bt : ∀ R : D → Prop, (∀ d, R d → ∃ n : Nat, d = .int n) → ∀ d, R d → d.tupO = true := fun R h d hd => by
      obtain ⟨n, e⟩ := h d hd
      rw [e]; rfl
    show tSeq _ _ _ [some (.ref p), some v1, some v2, some v3, some (.int (n : Nat)), some (.ref h.o), some (.ref ll), none, none, none, none, none, none, none] H2
    refine q_for (K := K) (n := 4000) (js := [7]) (E := fun i => [.int i]) x2.c.s (i_rng1' (n := 4000) e_int (by decide)) (fun i hi => g_name)
      (fun i σ' G' H' => ∃ M' as' h' s left w7 w8 w9 w10 w11 w12 w13, LGo K G M H p G' M' H' as' h' s ll left ∧ h'.o = h.o ∧ Goes c tr (tbOf ev) s left ∧ s.ws.length = n ∧ s.es.length ≤ i ∧ (400 ≤ i → Due n s left i) ∧ σ' = [some (.ref p), some v1, some v2, some v3, some (.int (n : Nat)), some (.ref h.o), some (.ref ll), w7, w8, w9, w10, w11, w12, w13])
      (fun G3 H3 s3 => ⟨M2, _, h, hs0 c n, tr, none, none, none, none, none, none, none, x2.then s3, rfl, goes_0 oc tr _ ⟨hn1, hn5⟩, List.length_replicate, Nat.zero_le _, fun z => by omega, rfl⟩) ?_ ?_
    · rintro Gw ew i hi σ' G' H' S' ew' ⟨M', as', h', s, left, w7, w8, w9, w10, w11, w12, w13, x', ho, g, hw, hes0, hd, rfl⟩ G3 H3 us s3 ru
      obtain ⟨y, rfl, ry⟩ := ru.one
      have yv := ry.int_of
      subst yv
      have x3 := x'.then s3
      have e3 : Ex G2 G3 := ew.trans (ew'.trans s3.g)
      have r1 := r1.ex e3
      have r2 := r2.ex e3
      have r3 := r3.ex e3
      show tSeq _ _ _ [some (.ref p), some v1, some v2, some v3, some (.int (n : Nat)), some (.ref h.o), some (.ref ll), some (.int (i : Nat)), w8, w9, w10, w11, w12, w13] H3
      refine qr_asgC (K := K) (R := fun d => ∃ j : Nat, d = .int j ∧ j < n ∧ (400 ≤ i → j = i % n)) x3.c x3.hp x3.dm (r_if (b := decide (i < 400)) (b_test (K := K) (EvD.bl (e_lt (i := (i : Nat)) (j := 400) (e_var rfl (.int _)) e_int) (dec_iff (by omega)))) (fun hb => (r_off rfl (r_n (n := n) (e_var rfl (.int _))) (by omega) (by omega)).imp fun d ⟨r, e, _, h2⟩ => ⟨r, e, by omega, fun z => by have := of_decide_eq_true hb; omega⟩) (fun hb => r_of (EvD.int (e_mod (i := (i : Nat)) (j := (n : Nat)) (e_var rfl (.int _)) (e_var rfl (.int _)) (by omega)) rfl) ⟨i % n, rfl, Nat.mod_lt _ (by omega), fun _ => rfl⟩)) (bt _ fun d ⟨r, e, _⟩ => ⟨r, e⟩) fun v8 d8 G4 H4 M4 e4 c4 dm4 hM4 ⟨j, hd8, hjn, hj4⟩ r8 => ?_
      subst hd8
      cases r8
      have x4 := x3.dice e4 c4 dm4 hM4
      refine qr_asgC (K := K) (R := fun d => ∃ k : Nat, d = .int k ∧ (400 ≤ i → k = 0)) x4.c x4.hp x4.dm (r_if (b := decide (i < 400)) (b_test (K := K) (EvD.bl (e_lt (i := (i : Nat)) (j := 400) (e_var rfl (.int _)) e_int) (dec_iff (by omega)))) (fun hb => (r_off rfl (r_lit (i := 9) (by decide)) (by decide) (by decide)).imp fun d ⟨r, e, _, h2⟩ => ⟨r, e, fun z => by have := of_decide_eq_true hb; omega⟩) (fun hb => r_of e_int ⟨0, rfl, fun _ => rfl⟩)) (bt _ fun d ⟨r, e, _⟩ => ⟨r, e⟩) fun v9 d9 G5 H5 M5 e5 c5 dm5 hM5 ⟨kd, hd9, hk4⟩ r9 => ?_
      subst hd9
      cases r9
      have x5 := x4.dice e5 c5 dm5 hM5
      have r1 := r1.ex (e4.trans e5)
      have r2 := r2.ex (e4.trans e5)
      have r3 := r3.ex (e4.trans e5)
      have e35 := e4.trans e5
      have hwl : j < s.ws.length := by omega
      have hes : s.es.length < 90000 := by omega
      refine s_ifC x5.c (b := !left.isEmpty && decide (kd < 2)) (b_and (b_test (K := K) (EvD.bl (e_neD (d1 := .lst (left.map trD)) (d2 := .lst []) (x5.left_ rfl) (EvF.toD (f_lst a_nil (by show 0 ≤ 100000; decide))) (ok_trs left) rfl) (by cases left <;> rfl))) fun _ => b_test (K := K) (EvD.bl (e_lt (i := (kd : Nat)) (j := 2) (e_var rfl (.int _)) e_int) (dec_iff (by omega)))) (fun hb G6 H6 e6 c6 => ?_) (fun hb G6 H6 e6 c6 => ?_)
      · have x6 := x5.on e6 c6
        cases left with
        | nil => cases hb
        | cons t left' =>
          obtain ⟨xs6, hx6, rx6⟩ := x6.lm
          obtain ⟨y0, ys, rfl, rt, rys⟩ := rpA_cons rx6
          refine q_popM (K := K) x6.c x6.li hx6 (o_name rfl) fun G7 H7 e7 c7 => ?_
          have x7 : LGo K G M H p G7 (upd M5 ll (.lst ys)) H7 as' h' s ll left' := ⟨c7, x6.hp, x6.dm.keep (upd_ne (Ne.symm x6.lp)), x6.p1, x6.i1, x6.a.grow e7 fun b hb => upd_ne fun z => x6.ln (z ▸ hb), ⟨ys, upd_same, rys.ex e7⟩, x6.li, x6.ln, x6.lp⟩
          generalize upd M5 ll (.lst ys) = M7 at x7 c7
          have rt7 := (rt.ex e7).ex x7.c.o.gg
          obtain ⟨ht1, ht2, ht3⟩ := g.time ot
          refine tDrop_go ?_
          refine LGo.call (K := K) (R := R_h_offer) x7 (o_name (by rw [ho]; rfl)) (fun _ _ _ _ _ => by rfl) (a_cons (e_ix (d1 := trD t) (e_var rfl rt7) e_int rfl) (a_cons (e_ix (d1 := trD t) (e_var rfl rt7) e_int rfl) (a_one (e_ix (d1 := trD t) (e_var rfl rt7) e_int rfl)))) rfl ⟨t.1, t.2.1, t.2.2, rfl, by rw [g.c]; exact ht2.team, by rw [g.c]; exact ht2.task, ht1, ht2.time, ht3, hes, rfl, rfl⟩ _ fun v8 G8 M8 H8 as8 h8 ho8 e8 x8 rv => ?_
          have g8 := g.offer ot
          exact ⟨G8, x8.c.s, ew'.trans (s3.g.trans (e35.trans (e6.trans (e7.trans e8)))), M8, as8, h8, _, left', _, _, _, _, _, _, _, x8, ho8.trans ho, g8, hw, by show (s.es ++ [_]).length ≤ _; rw [List.length_append]; show s.es.length + 1 ≤ i + 1; omega, due_next hd hw ⟨hn1, hn5⟩ (g8.left10 hl10) (psi_offer (g.few20 hl10) t), rfl⟩
      · have x6 := x5.on e6 c6
        refine s_ifC x6.c (b := decide (kd = 2) && decide (i < 60)) (b_and (b_test (K := K) (EvD.bl (e_eq (d1 := .int (kd : Nat)) (d2 := .int 2) (e_var rfl (.int _)) e_int rfl) (dec_iff (by omega)))) fun _ => b_test (K := K) (EvD.bl (e_lt (i := (i : Nat)) (j := 60) (e_var rfl (.int _)) e_int) (dec_iff (by omega)))) (fun hb2 G7 H7 e7 c7 => ?_) (fun hb2 G7 H7 e7 c7 => ?_)
        · have x7 := x6.on e7 c7
          rw [Bool.and_eq_true, decide_eq_true_eq, decide_eq_true_eq] at hb2
          refine tDrop_go ?_
          refine LGo.call (K := K) (R := R_h_fall) x7 (o_name (by rw [ho]; rfl)) (fun _ _ _ _ _ => by rfl) (a_one (e_var rfl (.int _))) rfl ⟨j, rfl, hwl, hes, rfl, rfl⟩ _ fun v8 G8 M8 H8 as8 h8 ho8 e8 x8 rv => ?_
          exact ⟨G8, x8.c.s, ew'.trans (s3.g.trans (e35.trans (e6.trans (e7.trans e8)))), M8, as8, h8, _, left, _, _, _, _, _, _, _, x8, ho8.trans ho, g.fall j, by show (s.ws.set j none).length = n; rw [List.length_set]; exact hw, by show (s.es ++ [_]).length ≤ _; rw [List.length_append]; show s.es.length + 1 ≤ i + 1; omega, fun z => by omega, rfl⟩
        have x7 := x6.on e7 c7
        refine s_ifC x7.c (b := decide (kd = 3) && decide (i < 60)) (b_and (b_test (K := K) (EvD.bl (e_eq (d1 := .int (kd : Nat)) (d2 := .int 3) (e_var rfl (.int _)) e_int rfl) (dec_iff (by omega)))) fun _ => b_test (K := K) (EvD.bl (e_lt (i := (i : Nat)) (j := 60) (e_var rfl (.int _)) e_int) (dec_iff (by omega)))) (fun hb3 G8 H8 e8 c8 => ?_) (fun hb3 G8 H8 e8 c8 => ?_)
        · have x8 := x7.on e8 c8
          rw [Bool.and_eq_true, decide_eq_true_eq, decide_eq_true_eq] at hb3
          have hmany := oc.many
          have r18 := r1.ex (e6.trans (e7.trans e8))
          have dd : Ex G8 (over G8 (delM M5 p)) := (delM_owns' (p := p) x8.c.o).gg
          refine qr_asgC (K := K) (R := Btw 0 (c.tasks.length - 1)) x8.c x8.hp x8.dm (r_off rfl (r_n (n := c.tasks.length) (e_len (d := .tup (c.tasks.map tkD)) (e_ix (d1 := c.d) (e_var rfl (r18.ex dd)) e_int rfl) (congrArg some (List.length_map _)))) (by omega) (by omega)) (bt _ fun d ⟨r, e, _⟩ => ⟨r, e⟩) fun v11 d11 G9 H9 M9 e9 c9 dm9 hM9 ⟨k, hd11, _, hk⟩ r11 => ?_
          subst hd11
          cases r11
          have x9 := x8.dice e9 c9 dm9 hM9
          have r19 := r18.ex e9
          have hkl : k < c.tasks.length := by omega
          have hsz := Con.size_le20 oc hkl
          have hsp := Con.size_pos oc hkl
          refine tDrop_go ?_
          refine LGo.start (K := K) (R := R_h_mend) x9 (o_name (by rw [ho]; rfl)) (fun _ _ _ _ _ => by rfl) _ fun G10 H10 e10 x10 => ?_
          refine ⟨_, rfl, ?_⟩
          have r1a := r19.ex e10
          have dd2 : Ex G10 (over G10 (delM M9 p)) := (delM_owns' (p := p) x10.c.o).gg
          refine EvR.chg (K := K) (R := Btw 0 (c.size k - 1)) x10.c x10.hp x10.dm (r_off rfl (r_n (n := c.size k) (e_call (a_cons (e_var rfl (r1a.ex dd2)) (a_one (e_var rfl (.int _)))) ⟨c, k, rfl, oc, hkl, rfl⟩)) (by omega) (by omega)) (bt _ fun d ⟨r, e, _⟩ => ⟨r, e⟩) _ fun v12 d12 G11 H11 M11 e11 c11 dm11 hM11 ⟨t, hd12, _, ht⟩ r12 => ?_
          subst hd12
          cases r12
          have x11 := x10.dice e11 c11 dm11 hM11
          refine tNil_go ?_
          refine x11.fin (vs := [.int (k : Nat), .int (t : Nat)]) (ds := [.int (k : Nat), .int (t : Nat)]) (.cons (.int _) (.cons (.int _) .nil)) ⟨k, t, rfl, by rw [g.c]; exact hkl, by rw [g.c]; omega, hes, rfl, rfl⟩ _ fun v13 G12 M12 H12 as12 h12 ho12 e12 x12 rv => ?_
          exact ⟨G12, x12.c.s, ew'.trans (s3.g.trans (e35.trans (e6.trans (e7.trans (e8.trans (e9.trans (e10.trans (e11.trans e12)))))))), M12, as12, h12, _, left, _, _, _, _, _, _, _, x12, ho12.trans ho, g.mend k t, by show (mendW _ _ _ _ _).length = n; rw [mendW_len]; exact hw, by show (s.es ++ [_]).length ≤ _; rw [List.length_append]; show s.es.length + 1 ≤ i + 1; omega, fun z => by omega, rfl⟩
        have x8 := x7.on e8 c8
        have r38 := r3.ex (e6.trans (e7.trans e8))
        have hxs : ∀ i' ∈ (List.range s.ws.length).filter (fun i => (s.ws.getD i none).isSome), ∃ x : Nat × Nat, s.ws.getD i' none = some x := fun i' hi' => by
          have h2 := (List.mem_filter.mp hi').2
          cases q2 : s.ws.getD i' none with
          | none => rw [q2] at h2; cases h2
          | some x => exact ⟨x, rfl⟩
        refine q_asgLC (K := K) (ds := (if j < s.ws.length ∧ (s.ws.getD j none).isSome = true then [j] else []).map fun i => hadD i (s.ws.getD i none)) x8.c (EvF.eq (f_lcm (xs := (List.range s.ws.length).filter (fun i => (s.ws.getD i none).isSome)) (Y := nth (hadL s.ws)) (js := [13]) (fun _ i => [hadD i (s.ws.getD i none)]) (fun i => decide (i = j)) (fun i => hadD i (s.ws.getD i none)) (i_seqL' (List.length_map _) (EvF.toD (f_hallR (o_name (by rw [ho]; rfl)) (x8.a.rd x8.c.o) (fun _ _ _ _ _ => by rfl)))) (fun i' x hx => by
            show EvG K (gName 13) (nth (((List.range s.ws.length).filter (fun i => (s.ws.getD i none).isSome)).map fun i => hadD i (s.ws.getD i none)) i') [13] [hadD x (s.ws.getD x none)]
            rw [nth_map hx]; exact g_name) (by
              have h1 := List.length_filter_le (fun i => (s.ws.getD i none).isSome) (List.range s.ws.length)
              rw [List.length_range] at h1
              omega) (fun _ _ _ => rfl) (fun us _ => wipe_set (by decide)) (fun k x hx G9 e9 us ru => ?_) (fun k x hx _ G9 e9 us ru => ?_)) (by rw [filt_one])) (tupOA_map (fun i => by
              unfold hadD
              split <;> rfl) _) fun v12 G9 H9 e9 c9 r12 => ?_
        · obtain ⟨y1, rfl, ry1⟩ := ru.one
          obtain ⟨w, hw2⟩ := hxs x (List.mem_of_getElem? hx)
          rw [hw2] at ry1
          exact b_test (K := K) (EvD.bl (e_eq (d1 := .int (x : Nat)) (d2 := .int (j : Nat)) (e_ix (d1 := .tup [.int x, .int w.1, .int w.2]) (e_var rfl ry1) e_int rfl) (e_var rfl (.int _)) rfl) (dec_iff (by omega)))
        · obtain ⟨y1, rfl, ry1⟩ := ru.one
          exact e_var rfl ry1
        have x9 := x8.on e9 c9
        have r39 := r38.ex e9
        have eC : Ex G' G9 := s3.g.trans (e35.trans (e6.trans (e7.trans (e8.trans e9))))
        cases hwj : s.ws.getD j none with
        | some x =>
          have hj0 : s.ws[j]? = some (some x) := by rw [wk_at hwl, hwj]
          rw [hwj, if_pos ⟨hwl, rfl⟩] at r12
          have r12 : Rp K G9 v12 (.lst [hadD j (s.ws.getD j none)]) := r12
          rw [hwj] at r12
          have r12 : Rp K G9 v12 (.lst [.tup [.int j, .int x.1, .int x.2]]) := r12
          refine s_ifC x9.c (b := true) (b_test (K := K) (EvD.bl (e_neD (d1 := .lst [.tup [.int j, .int x.1, .int x.2]]) (d2 := .lst []) (e_var rfl (r12.ex x9.c.o.gg)) (EvF.toD (f_lst a_nil (by show 0 ≤ 100000; decide))) (ok_lows fun d hd => by rw [List.mem_singleton.mp hd]; rfl) rfl) rfl)) (fun _ G10 H10 e10 c10 => ?_) (fun z => nomatch z)
          have x10 := x9.on e10 c10
          obtain ⟨b, hb1, hb2⟩ := truth_at hev ot g (List.mem_of_getElem? hj0)
          have gg := x10.c.o.gg
          refine tDrop_go ?_
          refine LGo.call (K := K) (R := R_h_tell) x10 (o_name (by rw [ho]; rfl)) (fun _ _ _ _ _ => by rfl) (a_cons (e_var rfl (.int _)) (a_one (e_dget (v := .bl b) (kvs := vkD ev) (ks := natK x) (e_var rfl ((r39.ex e10).ex gg)) (e_slT (ds := [.int j, .int x.1, .int x.2]) (es := [.int x.1, .int x.2]) (e_ix (d1 := .lst [.tup [.int j, .int x.1, .int x.2]]) (e_var rfl ((r12.ex e10).ex gg)) e_int rfl) (p_some (e_int (K := K))) p_none (fun z => by have h : (1 : Nat) = 0 := z.1; omega) rfl) rfl hb2 rfl))) rfl ⟨j, b, x, rfl, hj0, hes, rfl, rfl⟩ _ fun v13 G11 M11 H11 as11 h11 ho11 e11 x11 rv => ?_
          obtain ⟨g11, hu11⟩ := g.tell hj0 hb1
          exact ⟨G11, x11.c.s, ew'.trans (eC.trans (e10.trans e11)), M11, as11, h11, _, left, _, _, _, _, _, _, _, x11, ho11.trans ho, g11, by show (s.ws.set j none).length = n; rw [List.length_set]; exact hw, by show (s.es ++ [_]).length ≤ _; rw [List.length_append]; show s.es.length + 1 ≤ i + 1; omega, due_next hd (by show (s.ws.set j none).length = n; rw [List.length_set]; exact hw) ⟨hn1, hn5⟩ (g.left10 hl10) (psi_tell g hl10 hj0 hb1), rfl⟩
        | none =>
          have hj0 : s.ws[j]? = some none := by rw [wk_at hwl, hwj]
          rw [hwj, if_neg (fun z => nomatch z.2)] at r12
          have r12 : Rp K G9 v12 (.lst []) := r12
          refine s_ifC x9.c (b := false) (b_test (K := K) (EvD.bl (e_neD (d1 := .lst []) (d2 := .lst []) (e_var rfl (r12.ex x9.c.o.gg)) (EvF.toD (f_lst a_nil (by show 0 ≤ 100000; decide))) rfl rfl) rfl)) (fun z => nomatch z) (fun _ G10 H10 e10 c10 => ?_)
          have x10 := x9.on e10 c10
          refine and_go ?_
          refine LGo.call (K := K) (R := R_h_take) x10 (o_name (by rw [ho]; rfl)) (fun _ _ _ _ _ => by rfl) (a_one (e_var rfl (.int _))) rfl ⟨j, rfl, hj0, hes, rfl, rfl⟩ _ fun v13 G11 M11 H11 as11 h11 ho11 e11 x11 rv => ?_
          have g11 := g.take hj0
          have hw11 : (s.take j).ws.length = n := by rw [take_len]; exact hw
          cases hf : s.free with
          | nil =>
            have hst : s.take j = s := by unfold Hs.take; rw [hf]
            have htk : taken s = .non := by unfold taken; rw [hf]
            rw [htk] at rv
            cases rv
            rw [hst] at x11
            refine ⟨rfl, true, rfl, ?_⟩
            rw [if_pos rfl]
            refine EvB.chg (b := left.isEmpty && decide (hadL s.ws = [])) (b_and (b_test (K := K) (EvD.bl (e_eqD (d1 := .lst (left.map trD)) (d2 := .lst []) (x11.left_ rfl) (EvF.toD (f_lst a_nil (by show 0 ≤ 100000; decide))) (ok_trs left) rfl) (by cases left <;> rfl))) fun _ => b_test (K := K) (EvD.bl (e_eqD (d1 := .lst (hadL s.ws)) (d2 := .lst []) (EvF.toD (f_hallR (o_name (by rw [ho11, ho]; rfl)) (x11.a.rd x11.c.o) (fun _ _ _ _ _ => by rfl))) (EvF.toD (f_lst a_nil (by show 0 ≤ 100000; decide))) (hadL_ok _) rfl) (eqv_no _))) x11.c _ fun G12 H12 e12 c12 => ?_
            have x12 := x11.on e12 c12
            cases hbe : (left.isEmpty && decide (hadL s.ws = [])) with
            | true =>
              rw [if_pos rfl]
              rw [Bool.and_eq_true, decide_eq_true_eq, List.isEmpty_iff] at hbe
              obtain ⟨hl0, hh0⟩ := hbe
              subst hl0
              obtain ⟨q1, q2, q3⟩ := g.done hf ((had_wk _).mp hh0)
              refine ⟨_, rfl, ?_⟩
              rw [← ho, ← ho11]
              exact q G12 M11 H12 as11 h11 s (e02.trans (ew.trans (ew'.trans (eC.trans (e10.trans (e11.trans e12)))))) x12.c x12.hp x12.dm x12.a x12.i1 x12.p1 g.c q1 q3 q2
            | false =>
              rw [if_neg Bool.false_ne_true]
              refine ⟨G12, x12.c.s, ew'.trans (eC.trans (e10.trans (e11.trans e12))), M11, as11, h11, s, left, _, _, _, _, _, _, _, x12, ho11.trans ho, g, hw, by omega, fun z => ?_, rfl⟩
              by_cases h4 : 400 ≤ i
              · have hk0 := hk4 h4
                subst hk0
                have hl0 : left = [] := by
                  cases left with
                  | nil => rfl
                  | cons t l => cases hb
                subst hl0
                have hji := hj4 h4
                rw [hji] at hj0
                refine due_wait (hd h4) hf ?_ hj0
                refine Classical.byContradiction fun hno => ?_
                have hwk : wkL s.ws = [] := List.eq_nil_iff_forall_not_mem.mpr fun x hx => hno ⟨x, hx⟩
                rw [(had_wk _).mpr hwk] at hbe
                cases hbe
              · have : i + 1 = 400 := by omega
                rw [this]
                exact due_start hw ⟨hn1, hn5⟩ (g.left10 hl10)
          | cons x r =>
            have htk : taken s = prD x := by unfold taken; rw [hf]
            rw [htk] at rv
            obtain ⟨a13, xs13, rfl, _⟩ : ∃ a xs, v13 = V.ref a ∧ xs = [x] := by
              cases rv with
              | tup h1 h2 => exact ⟨_, _, rfl, rfl⟩
            refine ⟨rfl, false, congrArg V.bl (decide_eq_false fun z => nomatch z), ?_⟩
            rw [if_neg Bool.false_ne_true, if_neg Bool.false_ne_true]
            have hes2 : (s.take j).es.length ≤ i + 1 := by
              unfold Hs.take
              rw [hf]
              show (s.es ++ [_]).length ≤ _
              rw [List.length_append]
              show s.es.length + 1 ≤ i + 1
              omega
            exact ⟨G11, x11.c.s, ew'.trans (eC.trans (e10.trans e11)), M11, as11, h11, s.take j, left, _, _, _, _, _, _, _, x11, ho11.trans ho, g11, hw11, hes2, due_next hd hw11 ⟨hn1, hn5⟩ (g.left10 hl10) (psi_take g hl10 hj0 (by rw [hf]; exact fun z => nomatch z)), rfl⟩
    · rintro σ' G' H' S' ew' ⟨M', as', h', s, left, w7, w8, w9, w10, w11, w12, w13, x', ho, g, hw, hes0, hd, rfl⟩
      exact absurd (hd (by decide)) fun z => due_end z

end

section
variable [Tbs] {P : Program} {w : World} {K : PySem.W.Frag} {mg : Str → Option Value} {base : Heap}
/-! ### openings, plainly -/
/-- data of whole numbers, at most n levels -/
inductive FitI : Nat → D → Prop
  | non {n : Nat} : FitI (n + 1) .non
  | int {n : Nat} (i : Int) : FitI (n + 1) (.int i)
  | tup {n : Nat} {ds : List D} (hl : ds.length ≤ 1000000) (h : ∀ d ∈ ds, FitI n d) : FitI (n + 1) (.tup ds)
  | lst {n : Nat} {ds : List D} (hl : ds.length ≤ 1000000) (h : ∀ d ∈ ds, FitI n d) : FitI (n + 1) (.lst ds)
theorem FitI.fit : ∀ {n : Nat} {d : D}, FitI n d → Fit n d
  | 0, d, h => by cases h
  | n + 1, d, h => by
    cases h with
    | non => exact .non
    | int i => exact .int i
    | tup hl h => exact .tup hl fun d hd => (h d hd).fit
    | lst hl h => exact .lst hl fun d hd => (h d hd).fit
theorem fit_all : ∀ {n : Nat} {d : D}, FitI n d → d.plain = true ∧ d.py.canLay0 = true ∧ d.py.depth ≤ n
  | 0, d, h => by cases h
  | n + 1, d, h => by
    have lists : ∀ ds : List D, (∀ d ∈ ds, FitI n d) → D.plainA ds = true ∧ PyData.canLayAll0 (D.pyA ds) = true ∧ PyData.depthAll (D.pyA ds) ≤ n := by
      intro ds
      induction ds with
      | nil => intro _; exact ⟨rfl, rfl, Nat.zero_le _⟩
      | cons d ds ih =>
        intro h
        obtain ⟨p1, p2, p3⟩ := fit_all (h d List.mem_cons_self)
        obtain ⟨a, b, c⟩ := ih fun x hx => h x (List.mem_cons_of_mem _ hx)
        refine ⟨?_, ?_, ?_⟩
        · show (d.plain && D.plainA ds) = true
          rw [p1, a]; rfl
        · simp [D.pyA, PyData.canLayAll0, p2, b]
        · simp only [D.pyA, PyData.depthAll]
          omega
    cases h with
    | non => exact ⟨rfl, rfl, Nat.zero_le _⟩
    | int i => exact ⟨rfl, rfl, Nat.zero_le _⟩
    | tup hl h =>
      obtain ⟨a, b, c⟩ := lists _ h
      refine ⟨a, ?_, ?_⟩
      · simp [D.py, PyData.canLay0, b]
      · simp only [D.py, PyData.depth]; omega
    | lst hl h =>
      obtain ⟨a, b, c⟩ := lists _ h
      refine ⟨a, ?_, ?_⟩
      · simp [D.py, PyData.canLay0, b]
      · simp only [D.py, PyData.depth]; omega
theorem fit_ok {n : Nat} {d : D} (h : FitI n d) (hn : n ≤ 32) : d.ok = true := by
  obtain ⟨a, b, c⟩ := fit_all h
  unfold D.ok SeqAt.shaped
  rw [Bool.and_eq_true, Bool.and_eq_true, decide_eq_true_eq]
  exact ⟨a, b, by omega⟩

end

section
variable [Tbs] {P : Program} {w : World} {K : PySem.W.Frag} {mg : Str → Option Value} {base : Heap}
/-! ### a hall asked: standings, boards; what a log's numbers are -/
theorem tab_vk {us : List Ver} (h : (us.map fun v => (v.1, v.2.1)).Nodup) : TabOk (vkD us) (tbOf us) := ⟨fun n t => valV_ver us n t⟩
/-- a method that reads with the tables of lambdas: a new list -/
def spHg (K : PySem.W.Frag) (f : Hs → List D) : Sp := fun vs H Q _ => ∃ G o s, vs = [.ref o] ∧ Ex G H ∧ Mks G ∧ HallRd K G o s ∧
  ∀ p xs G' H', Step G H G' H' → H p = none → G' p = none → H' p = some (.lst xs) → RpA K G' xs (f s) → Q (.ref p) H'
section
variable {G : Hp} {σ : L2.St} {to : TE} {o : Addr} {s : Hs} {f : Hs → List D} {m : Str}
theorem f_hallG (mk : Mks G) (ho : EvO to σ G o) (a : HallRd K G o s) (hl : ∀ x1 x2 x3 x4 x5, (hlFs x1 x2 x3 x4 x5).lookup m = none) : EvF K (tMeth (cA K "Hall") m (spHg K f) [] E0 to tNil) σ G (f s) := by
  obtain ⟨dx, vc, vo, vt, vw, ve, h1, _⟩ := a.ex
  exact f_methR ho h1 (hl _ _ _ _ _) a_nil fun vs G1 H1 Q e1 e2 r q => by
    cases r
    exact ⟨G1, o, s, rfl, e2, mk.ex e1, a.exx e1, q⟩
end
abbrev s_Hall_standings : Stmt := inClass (top 73) 11
abbrev N_Hall_standings : List Str := ["self"]
abbrev P_Hall_standings : List Str := ["self"]
theorem sc_Hall_standings : FnScope N_Hall_standings P_Hall_standings (defScope s_Hall_standings) := ⟨rfl, rfl, rfl, by decide +kernel, rfl, by decide +kernel, by decide +kernel⟩

abbrev s_Hall_board : Stmt := inClass (top 73) 12
abbrev N_Hall_board : List Str := ["self"]
abbrev P_Hall_board : List Str := ["self"]
theorem sc_Hall_board : FnScope N_Hall_board P_Hall_board (defScope s_Hall_board) := ⟨rfl, rfl, rfl, by decide +kernel, rfl, by decide +kernel, by decide +kernel⟩

abbrev sp_Hall_standings (K : PySem.W.Frag) : Sp := spHg K fun s => (standL s.c s.ts (tbOf s.us)).map rowD
abbrev sp_Hall_board (K : PySem.W.Frag) : Sp := spHg K fun s => (boardL s.c s.ts (tbOf s.us) (frozenU s.c)).map brD
theorem ok_Hall_standings {f : Addr} {fd : FuncData} (F : Fun K "standings" "Hall.standings" s_Hall_standings f fd) (T : Tx K mg) (d_all_placed : Dk P w K mg base 6 "all_placed" P_all_placed (sp_all_placed K)) : FnOk P w K mg base CX0 7 f fd P_Hall_standings (sp_Hall_standings K) := by
  refine F.ok sc_Hall_standings (fun vs H Q E h => ?_) (fun cdv A outer s H vs Q E hr h => ?_)
  · obtain ⟨G, o, s, rfl, e, mk, a, q⟩ := h
    first | rfl | exact congrArg (· + 1) ra.len | exact congrArg (· + 2) ra.len
  · obtain ⟨G, o, s, rfl, e, mk, a, q⟩ := h
    refine ⟨_, (pss_one (ps_ret (pe_fn d_all_placed (hr.mono (by decide)) (by rfl) (pa_cons (pe_fldK K rfl (pv 0) rfl) (pa_cons (pe_fldK K rfl (pv 0) rfl) (pa_cons (pe_fldK K rfl (pv 0) rfl) pa_nil)))))), ?_⟩
    try dsimp only [cxOf, Cx.nox, Cx.wish]
    have C := hallC T
    exact s_retF (K := K) e (f_callm (K := K) mk (a_cons (a.fc C (o_name rfl)) (a_cons (a.fo C (o_name rfl)) (a_one (a.ft C (o_name rfl))))) ⟨s.c, s.ts, vkD s.us, tbOf s.us, rfl, a.ok.oc, a.ok.ot, tab_vk a.ok.ov.once, rfl⟩) q
theorem ok_Hall_board {f : Addr} {fd : FuncData} (F : Fun K "board" "Hall.board" s_Hall_board f fd) (T : Tx K mg) (d_frozen_untils : Dk P w K mg base 1 "frozen_untils" P_frozen_untils (sp_frozen_untils K)) (d_rows_of : Dk P w K mg base 6 "rows_of" P_rows_of (sp_rows_of K)) : FnOk P w K mg base CX0 7 f fd P_Hall_board (sp_Hall_board K) := by
  refine F.ok sc_Hall_board (fun vs H Q E h => ?_) (fun cdv A outer s H vs Q E hr h => ?_)
  · obtain ⟨G, o, s, rfl, e, mk, a, q⟩ := h
    first | rfl | exact congrArg (· + 1) ra.len | exact congrArg (· + 2) ra.len
  · obtain ⟨G, o, s, rfl, e, mk, a, q⟩ := h
    refine ⟨_, (pss_one (ps_ret (pe_fn d_rows_of (hr.mono (by decide)) (by rfl) (pa_cons (pe_fldK K rfl (pv 0) rfl) (pa_cons (pe_fldK K rfl (pv 0) rfl) (pa_cons (pe_fldK K rfl (pv 0) rfl) (pa_cons (pe_fn d_frozen_untils (hr.mono (by decide)) (by rfl) (pa_cons (pe_fldK K rfl (pv 0) rfl) pa_nil)) pa_nil))))))), ?_⟩
    try dsimp only [cxOf, Cx.nox, Cx.wish]
    have C := hallC T
    exact s_retF (K := K) e (f_callm (K := K) mk (a_cons (a.fc C (o_name rfl)) (a_cons (a.fo C (o_name rfl)) (a_cons (a.ft C (o_name rfl)) (a_one (EvD.eq (EvF.toD (f_callFF (a_one (a.fc C (o_name rfl))) ⟨s.c, rfl, a.ok.oc, rfl⟩ (frozenR_flat s.c))) (congrArg D.lst (frozenR_lst s.c))))))) ⟨s.c, s.ts, vkD s.us, tbOf s.us, frozenU s.c, rfl, a.ok.oc, a.ok.ot, tab_vk a.ok.ov.once, frozenU_ok a.ok.oc, rfl⟩) q

end

section
variable [Tbs] {P : Program} {w : World} {K : PySem.W.Frag} {mg : Str → Option Value} {base : Heap}
/-! ### a hall asked what could be -/
theorem small_vk {c : Con} {ts : List Try} {us : List Ver} (oc : c.Ok) (ot : TriesOk c ts) (ov : VersOk c ts us) : Small ((vkD us).map (·.1)) := by
  have h := small_ver oc ot ov
  rw [verT_eq ov.once] at h
  exact h
abbrev s_Hall_could : Stmt := inClass (top 73) 13
abbrev N_Hall_could : List Str := ["self"]
abbrev P_Hall_could : List Str := ["self"]
theorem sc_Hall_could : FnScope N_Hall_could P_Hall_could (defScope s_Hall_could) := ⟨rfl, rfl, rfl, by decide +kernel, rfl, by decide +kernel, by decide +kernel⟩

abbrev sp_Hall_could (K : PySem.W.Frag) : Sp := spHg K fun s => (extL s.c s.ts (tbOf s.us)).map natP
theorem ok_Hall_could {f : Addr} {fd : FuncData} (F : Fun K "could" "Hall.could" s_Hall_could f fd) (T : Tx K mg) (d_extremes : Dk P w K mg base 8 "extremes" P_extremes (sp_extremes K)) : FnOk P w K mg base CX0 9 f fd P_Hall_could (sp_Hall_could K) := by
  refine F.ok sc_Hall_could (fun vs H Q E h => ?_) (fun cdv A outer s H vs Q E hr h => ?_)
  · obtain ⟨G, o, s, rfl, e, mk, a, q⟩ := h
    first | rfl | exact congrArg (· + 1) ra.len | exact congrArg (· + 2) ra.len
  · obtain ⟨G, o, s, rfl, e, mk, a, q⟩ := h
    refine ⟨_, (pss_one (ps_ret (pe_fn d_extremes (hr.mono (by decide)) (by rfl) (pa_cons (pe_fldK K rfl (pv 0) rfl) (pa_cons (pe_fldK K rfl (pv 0) rfl) (pa_cons (pe_fldK K rfl (pv 0) rfl) pa_nil)))))), ?_⟩
    try dsimp only [cxOf, Cx.nox, Cx.wish]
    have C := hallC T
    exact s_retF (K := K) e (f_callm (K := K) mk (a_cons (a.fc C (o_name rfl)) (a_cons (a.fo C (o_name rfl)) (a_one (a.ft C (o_name rfl))))) ⟨s.c, s.ts, vkD s.us, tbOf s.us, rfl, a.ok.oc, a.ok.ot, tab_vk a.ok.ov.once, small_vk a.ok.oc a.ok.ot a.ok.ov, rfl⟩) q

end

section
variable [Tbs] {P : Program} {w : World} {K : PySem.W.Frag} {mg : Str → Option Value} {base : Heap}
/-! ### one's own list of lists, own halls asked -/
section
variable {G M G0 M0 H0 H : Hp} {as as0 : List Addr} {σ : L2.St} {ta te : TE} {l a : Addr} {xs : List V} {ds : List D} {Dn : Ends} {tz : TS} {i : Nat}
theorem s_appF (c : Chg G0 M0 H0 as0 G M H as) (hl : l ∈ as) (hm : M l = some (.lst xs)) (ho : EvO ta σ (over G M) l) (h : EvF K te σ (over G M) ds) (hd : D.tupOA ds = true) (hz : xs.length < 100000)
    (k : ∀ v G1 H1, Ex G G1 → Chg G0 M0 H0 as0 G1 (upd M l (.lst (xs ++ [v]))) H1 as → Rp K G1 v (.lst ds) → Dn.nx σ H1) : tDrop (tBM K "list" rAppend ta (tCons te tNil)) Dn σ H :=
  ho H (c.o.ex c.ii) _ fun G1 H1 s1 => ⟨Or.inl ⟨rfl, xs, .of (s1.i _ _ (s1.g _ _ (over_some hm)))⟩, (h.mono s1.g) H1 s1.i _ fun q ys G2 H2 s2 h1 h2 h3 r => by
    obtain ⟨G3, s3, o3, tr, fr, gM⟩ := (s1.trans s2).thawM c.o
    have hq := s1.pre h1
    have c4 := (c.then s3).freeze (fresh_back c.s.h hq) (fr q h2) h3 (c.ne hq)
    have rr : RpA K G3 ys ds := r.off (off_tr c.o tr gM) hd
    exact ⟨l, xs, .ref q, rfl, rfl, o3.h _ _ hm, sz_lt hz, k _ _ _ (s3.g.trans (Ex.new (fr q h2))) (c4.upd hl hm) (.lst upd_same (rr.ex (Ex.new (fr q h2))))⟩⟩
theorem q_asgKC {kvs : List (Key × V)} (c : Chg G0 M0 H0 as0 G M H as) (h : EvFK te σ (over G M) kvs) (k : ∀ v G1 H1, Ex G G1 → Chg G0 M0 H0 as0 G1 M H1 as → Rp K G1 v (.dic kvs) → tz Dn (σ.set i (some v)) H1) : tSeq (tAsg te (gName i)) tz Dn σ H :=
  q_asgKM c.ii c.o h fun p G1 H1 s o1 h1 h2 h3 => k _ _ H1 (s.g.trans (Ex.new h2)) ((c.then s).freeze (fresh_back c.s.h h1) h2 h3 (c.ne h1)) (.dic upd_same)
theorem b_oIsN (h : EvO te σ G a) : EvB (tTest (tOp (fun x y H Q => y = .non ∧ Q (.bl (decide (x = .non))) H) te (tC .non))) σ G false := fun H e Q q =>
  h H e _ fun G1 H1 s1 => ⟨rfl, false, congrArg V.bl (decide_eq_false fun z => nomatch z), q G1 H1 s1⟩
end
theorem open_all {c : Con} {ts : List Try} {vs : List Ver} (hv : vpos vs = allTr c ts) : allOpen c ts (tbOf vs) = [] := List.eq_nil_iff_forall_not_mem.mpr fun x hx => by
  obtain ⟨h1, h2⟩ := mem_open hx
  have h3 : x ∈ vpos vs := by rw [hv]; exact h1
  exact tbOf_no h2 h3
theorem told_truth {us vs : List Ver} (hu : (vpos us).Nodup) (hv : (vpos vs).Nodup) (kp : Keeps (tbOf us) (tbOf vs)) {x : Ver} (hx : x ∈ told us) : valV (vkD vs) (natK (x.1, x.2.1)) = some (.bl x.2.2) := by
  have hn : (vpos (told us)).Nodup := by
    rw [told_pos]
    exact (riseL_perm _).nodup_iff.mpr hu
  have h1 : tbOf (told us) x.1 x.2.1 = some x.2.2 := (tbOf_some hn).mpr hx
  rw [tb_told' hu] at h1
  exact valV_at hv ((tbOf_some hv).mp (kp _ _ _ h1))
theorem board3 (c : Con) (ts : List Try) (tb : Nat → Nat → Option Bool) (uss : List (List Nat)) : (boardL c ts tb uss).map (fun r => rowD (r.1, r.2.1, r.2.2.1)) = (placedL (scoresB c ts tb uss)).map rowD := by
  unfold boardL
  rw [List.map_map]
  rfl
theorem rowD_tupO (r : Row) : (rowD r).tupO = true := by
  have h : (scD r.2.2).tupO = true := tupOA_map (fun _ => rfl) _
  show (true && (true && ((scD r.2.2).tupO && true))) = true
  rw [h]
  rfl
theorem ok_rows {ss : List (List Int)} (h : ∀ s ∈ ss, ScOk s) (hl : ss.length ≤ 1000) : (D.lst ((placedL ss).map rowD)).ok = true := by
  refine fit_ok (n := 8) (.lst (by rw [List.length_map, placedL_len]; omega) fun d hd => ?_) (by decide)
  obtain ⟨r, hr, rfl⟩ := List.mem_map.mp hd
  refine .tup (by show 3 ≤ 1000000; decide) fun d hd => ?_
  rcases List.mem_cons.mp hd with rfl | hd
  · exact .int _
  rcases List.mem_cons.mp hd with rfl | hd
  · exact .int _
  rcases List.mem_cons.mp hd with rfl | hd
  · have h := h _ (placedL_mem hr)
    refine .tup (by rw [List.length_map]; have := h.2; omega) fun d hd => ?_
    obtain ⟨x, _, rfl⟩ := List.mem_map.mp hd
    exact .int _
  · cases hd
theorem placedL_place8 {ss : List (List Int)} {r : Row} (h : r ∈ placedL ss) : r.1 = placeOf ss r.2.1 := by
  obtain ⟨t, ht, rfl⟩ := List.mem_map.mp (List.mem_mergeSort.mp h)
  rfl
theorem placedL_all8 {ss : List (List Int)} {t : Nat} (h : t < ss.length) : ∃ r ∈ placedL ss, r.2.1 = t :=
  ⟨(placeOf ss t, t, scAt ss t), List.mem_mergeSort.mpr (List.mem_map.mpr ⟨t, List.mem_range.mpr h, rfl⟩), rfl⟩
theorem inl_inj8 {a b : Nat} (h : (Sum.inl (a : Int) : Key) = Sum.inl (b : Int)) : a = b := by
  injection h with h
  omega
theorem merge_rows8 {P : Nat → Nat} {t : Nat} : ∀ {rows : List Row} {acc : List (Key × V)}, (∀ r ∈ rows, r.1 = P r.2.1) → valV (mergeK acc (rows.map fun r => ((.inl (r.2.1 : Int) : Key), V.int (r.1 : Int)))) (.inl (t : Int)) = if (rows.any fun r => decide (r.2.1 = t)) = true then some (.int (P t : Int)) else valV acc (.inl (t : Int))
  | [], acc, _ => rfl
  | r :: rows, acc, h => by
    show valV (mergeK (putK acc (.inl (r.2.1 : Int)) (.int (r.1 : Int))) _) _ = _
    rw [merge_rows8 (fun x hx => h x (List.mem_cons_of_mem _ hx)), List.any_cons, valV_put]
    by_cases e : r.2.1 = t
    · subst e
      rw [decide_eq_true rfl, Bool.true_or, if_pos rfl, h r List.mem_cons_self]
      split
      · rfl
      · rw [if_pos rfl]
    · rw [decide_eq_false e, Bool.false_or]
      split
      · rfl
      · rw [if_neg (fun z => e (inl_inj8 z).symm)]
theorem low_natP8 (x : Nat × Nat) : (natP x).low = true := rfl
theorem low_pairs8 (l : List (Nat × Nat)) : (D.lst (l.map natP)).ok = true := ok_lows fun d hd => by
  obtain ⟨x, _, rfl⟩ := List.mem_map.mp hd
  exact low_natP8 x
theorem boardL_len8 {c : Con} {ts : List Try} {tb : Nat → Nat → Option Bool} {uss : List (List Nat)} : (boardL c ts tb uss).length = c.teams := by
  unfold boardL
  rw [List.length_map, placedL_len, scoresB_len]

end

section
variable [Tbs] {P : Program} {w : World} {K : PySem.W.Frag} {mg : Str → Option Value} {base : Heap}
abbrev s_law : Stmt := top 83
abbrev N_law : List Str := ["_law_script", "_law_d", "_law_contest_here", "_law_tries_here", "_law_truth_here", "_law_every", "_law_due", "_law_boards", "_law_k", "_law_hall", "_law_places", "_law_spot", "_law_verdict", "_law_row", "_law_team"]
abbrev P_law : List Str := ["_law_script"]
theorem sc_law : FnScope N_law P_law (defScope s_law) := ⟨rfl, rfl, rfl, by decide +kernel, rfl, by decide +kernel, by decide +kernel⟩

theorem ok_law {f : Addr} {fd : FuncData} (F : Fun K "law" "law" s_law f fd) (T : Tx K mg) (d_Hall_board : Dm P w K mg base 7 "Hall" "board" P_Hall_board (sp_Hall_board K)) (d_Hall_could : Dm P w K mg base 9 "Hall" "could" P_Hall_could (sp_Hall_could K)) (d_Hall_standings : Dm P w K mg base 7 "Hall" "standings" P_Hall_standings (sp_Hall_standings K)) (d_Hall_tries : Dm P w K mg base 1 "Hall" "tries" P_Hall_tries (sp_Hall_tries K)) (d_Hall_verdicts : Dm P w K mg base 1 "Hall" "verdicts" P_Hall_verdicts (sp_Hall_verdicts K)) (d__law_case : Dk P w K mg base 3 "_law_case" P__law_case (sp__law_case K)) (d__law_dice : Dk P w K mg base 1 "_law_dice" P__law_dice (sp__law_dice K)) (d__law_goes : Dk P w K mg base 9 "_law_goes" P__law_goes (sp__law_goes K)) (d__law_off : Dk P w K mg base 1 "_law_off" P__law_off (sp__law_off K)) (d_board : Dk P w K mg base 7 "board" P_board (sp_board K)) (d_could : Dk P w K mg base 9 "could" P_could (sp_could K)) (d_standings : Dk P w K mg base 7 "standings" P_standings (sp_standings K)) : FnOk P w K mg base CX0 10 f fd P_law (sp_law K) := by
  refine F.ok sc_law (fun vs H Q E h => ?_) (fun cdv A outer s H vs Q E hr h => ?_)
  · obtain ⟨a, ns, rfl, _⟩ := h
    rfl
  · obtain ⟨a, ns, rfl, hS, hlen, k⟩ := h
    refine ⟨_, (pss_cons (ps_set (i := 1) sc_law.nd rfl (by first | exact Or.inl rfl | exact Or.inr rfl) (pe_fn d__law_dice (hr.mono (by decide)) (by rfl) (pa_cons (pv 0) (pa_cons pe_int pa_nil))))
    (pss_cons (ps_asg (pe_fn d__law_case (hr.mono (by decide)) (by rfl) (pa_cons (pv 1) (pa_cons (pe_lst (pa_cons pe_str (pa_cons pe_str (pa_cons pe_str pa_nil)))) (pa_cons pe_int pa_nil)))) (pg_tup rfl (pgs_cons (pg_name (i := 2) sc_law.nd rfl (by first | exact Or.inl rfl | exact Or.inr rfl)) (pgs_cons (pg_name (i := 3) sc_law.nd rfl (by first | exact Or.inl rfl | exact Or.inr rfl)) (pgs_cons (pg_name (i := 4) sc_law.nd rfl (by first | exact Or.inl rfl | exact Or.inr rfl)) pgs_nil)))))
    (pss_cons (ps_setLc (i := 5) (own := [("_law_spot", 11)]) (g := gName 11) (tt := tYes) rfl sc_law.nd rfl rfl (sw_true rfl rfl rfl (by decide +kernel)) (pi_seqK K rfl (pe_callB (cr_sortedDT rfl) (by rfl) T.n_sorted (by decide +kernel) (pa_cons (pv 4) pa_nil))) (blkOk_by (own := [("_law_spot", 11)]) (N := N_law) (sc := defScope s_law) (by decide +kernel)) (fun _ _ _ _ _ => (pg_name (i := 11) sc_law.nd rfl (by first | exact Or.inl rfl | exact Or.inr rfl))) (fun _ _ _ _ _ => pts_nil) (fun _ _ _ _ _ => (pe_op (op_addK K rfl) (pv 11) (pe_tup (pa_cons (pe_dget (hu_of hr) (pv 4) (pv 11) (fun _ _ => rfl)) pa_nil)))))
    (pss_cons (ps_set (i := 6) sc_law.nd rfl (by first | exact Or.inl rfl | exact Or.inr rfl) (pe_fn d_standings (hr.mono (by decide)) (by rfl) (pa_cons (pv 2) (pa_cons (pv 3) (pa_cons (pv 5) pa_nil)))))
    (pss_cons (ps_set (i := 7) sc_law.nd rfl (by first | exact Or.inl rfl | exact Or.inr rfl) (pe_lst pa_nil))
    (pss_cons (ps_for PassesOwn.never rfl (pi_range1 (by rfl) T.n_range (pa_cons pe_int pa_nil)) (pg_name (i := 8) sc_law.nd rfl (by first | exact Or.inl rfl | exact Or.inr rfl)) (pss_cons (ps_set (i := 9) sc_law.nd rfl (by first | exact Or.inl rfl | exact Or.inr rfl) (pe_fn d__law_goes (hr.mono (by decide)) (by rfl) (pa_cons (pv 1) (pa_cons (pv 2) (pa_cons (pv 3) (pa_cons (pv 4) (pa_cons (pe_op (op_addK K rfl) pe_int (pe_fn d__law_off (hr.mono (by decide)) (by rfl) (pa_cons (pv 1) (pa_cons pe_int pa_nil)))) pa_nil)))))))
    (pss_cons (ps_if (PW.pt (pw_or (pt_cmpR op_isN (pv 9) pe_non (nomark _)) (pw_or (pt_cmpR (op_neK K rfl hr.units) (pe_me0 d_Hall_standings (hr.mono (by decide)) (pv 9)) (pv 6) (nomark _)) (pw_or1 (pt_cmpR (op_neK K rfl hr.units) (pe_me0 d_Hall_tries (hr.mono (by decide)) (pv 9)) (pv 3) (nomark _)))))) (pss_one (ps_ret pe_bl)) pss_nil)
    (pss_cons (ps_if (pt_cmpR (op_neK K rfl hr.units) (pe_lc (own := [("_law_verdict", 12)]) (g := gName 12) (tt := _) rfl sc_law.nd (pi_seqK K rfl (pe_me0 d_Hall_verdicts (hr.mono (by decide)) (pv 9))) (blkOk_by (own := [("_law_verdict", 12)]) (N := N_law) (sc := defScope s_law) (by decide +kernel)) (fun _ _ _ _ _ => (pg_name (i := 12) sc_law.nd rfl (by first | exact Or.inl rfl | exact Or.inr rfl))) (fun _ _ _ _ _ => (pts_one (pt_cmpR (op_neK K rfl hr.units) (pe_dget (hu_of hr) (pv 4) (pe_slice (sl_seqK K rfl) (pv 12) po_none (po_some pe_int)) (fun _ _ => rfl)) (pe_ix (ix_seqK K rfl) (pv 12) pe_int (fun _ _ => rfl)) (nomark _)))) (fun _ _ _ _ _ => (pv 12))) (pe_lst pa_nil) (nomark _)) (pss_one (ps_ret pe_bl)) pss_nil)
    (pss_cons (ps_if (pt_cmpR (op_neK K rfl hr.units) (pe_me0 d_Hall_could (hr.mono (by decide)) (pv 9)) (pe_fn d_could (hr.mono (by decide)) (by rfl) (pa_cons (pv 2) (pa_cons (pv 3) (pa_cons (pv 5) pa_nil)))) (nomark _)) (pss_one (ps_ret pe_bl)) pss_nil)
    (pss_cons (ps_set (i := 10) sc_law.nd rfl (by first | exact Or.inl rfl | exact Or.inr rfl) (pe_callTy (call_dictPK K rfl rfl) (by rfl) T.n_dict (by decide +kernel) (pa_cons (pe_lc (own := [("_law_row", 13)]) (g := gName 13) (tt := tYes) rfl sc_law.nd (pi_seqK K rfl (pv 6)) (blkOk_by (own := [("_law_row", 13)]) (N := N_law) (sc := defScope s_law) (by decide +kernel)) (fun _ _ _ _ _ => (pg_name (i := 13) sc_law.nd rfl (by first | exact Or.inl rfl | exact Or.inr rfl))) (fun _ _ _ _ _ => pts_nil) (fun _ _ _ _ _ => (pe_tup (pa_cons (pe_ix (ix_seqK K rfl) (pv 13) pe_int (fun _ _ => rfl)) (pa_cons (pe_ix (ix_seqK K rfl) (pv 13) pe_int (fun _ _ => rfl)) pa_nil))))) pa_nil)))
    (pss_cons (ps_if (pt_cmpR (op_neK K rfl hr.units) (pe_me0 d_Hall_could (hr.mono (by decide)) (pv 9)) (pe_lc (own := [("_law_team", 14)]) (g := gName 14) (tt := tYes) rfl sc_law.nd (pi_range1 (by rfl) T.n_range (pa_cons (pe_ix (ix_seqK K rfl) (pv 2) pe_int (fun _ _ => rfl)) pa_nil)) (blkOk_by (own := [("_law_team", 14)]) (N := N_law) (sc := defScope s_law) (by decide +kernel)) (fun _ _ _ _ _ => (pg_name (i := 14) sc_law.nd rfl (by first | exact Or.inl rfl | exact Or.inr rfl))) (fun _ _ _ _ _ => pts_nil) (fun _ _ _ _ _ => (pe_tup (pa_cons (pe_dget (hu_of hr) (pv 10) (pv 14) (fun _ _ => rfl)) (pa_cons (pe_dget (hu_of hr) (pv 10) (pv 14) (fun _ _ => rfl)) pa_nil))))) (nomark _)) (pss_one (ps_ret pe_bl)) pss_nil)
    (pss_one (ps_expr (pe_bm PySem.F.plainAttrs_list PySem.F.slot_list_append PySem.F.type_list_append mt_append (pv 7) (pa_cons (pe_lc (own := [("_law_row", 13)]) (g := gName 13) (tt := tYes) rfl sc_law.nd (pi_seqK K rfl (pe_me0 d_Hall_board (hr.mono (by decide)) (pv 9))) (blkOk_by (own := [("_law_row", 13)]) (N := N_law) (sc := defScope s_law) (by decide +kernel)) (fun _ _ _ _ _ => (pg_name (i := 13) sc_law.nd rfl (by first | exact Or.inl rfl | exact Or.inr rfl))) (fun _ _ _ _ _ => pts_nil) (fun _ _ _ _ _ => (pe_slice (sl_seqK K rfl) (pv 13) po_none (po_some pe_int)))) pa_nil)))))))))))
    (pss_one (ps_ret (pe_chain (op_eqK K rfl hr.units) (op_eqK K rfl hr.units) (pe_ix (ix_seqK K rfl) (pv 7) pe_int (fun _ _ => rfl)) (pe_ix (ix_seqK K rfl) (pv 7) pe_int (fun _ _ => rfl)) (pe_lc (own := [("_law_row", 13)]) (g := gName 13) (tt := tYes) rfl sc_law.nd (pi_seqK K rfl (pe_fn d_board (hr.mono (by decide)) (by rfl) (pa_cons (pv 2) (pa_cons (pv 3) (pa_cons (pv 5) pa_nil))))) (blkOk_by (own := [("_law_row", 13)]) (N := N_law) (sc := defScope s_law) (by decide +kernel)) (fun _ _ _ _ _ => (pg_name (i := 13) sc_law.nd rfl (by first | exact Or.inl rfl | exact Or.inr rfl))) (fun _ _ _ _ _ => pts_nil) (fun _ _ _ _ _ => (pe_slice (sl_seqK K rfl) (pv 13) po_none (po_some pe_int))))))))))))), ?_⟩
    try dsimp only [cxOf, Cx.nox, Cx.wish]
    obtain ⟨hT, k⟩ := k
    have mk := mks_of hT
    have bt : ∀ R : D → Prop, (∀ d, R d → ∃ n : Nat, d = .int n) → ∀ d, R d → d.tupO = true := fun R h d hd => by
      obtain ⟨n, e⟩ := h d hd
      rw [e]; rfl
    refine ⟨_, rfl, a, ns, rfl, hS, hlen, fun p ms H1 hp0 hex hpx dok => ?_⟩
    dsimp only [gName]
    have S1 : Sd p H H1 H H1 := Sd.refl hex hp0 ⟨ms, hpx, dok⟩
    show tSeq _ _ _ [some (.ref a), some (.ref p), none, none, none, none, none, none, none, none, none, none, none, none, none] H1
    refine qr_asgT (K := K) S1 (r_call1 rfl (a_cons (EvF.toD (f_lst (a_cons e_str (a_cons e_str (a_one e_str))) (by show _ ≤ 100000; decide))) (a_one (e_int (i := 10)))) ⟨[sFirst, sBest, sGroups], 10, rfl, ⟨by decide, by decide, fun r hr => ?_⟩, by decide⟩) fun v d G3 H3 s3 S3 ⟨rs', m', c, ts, vs, e1, e2, oc, _, ot, hl, hv⟩ rv => ?_
    · simp only [List.mem_cons, List.not_mem_nil, or_false] at hr
      exact hr
    have hm' : (10 : Nat) = m' := by
      injection e1 with _ f
      injection f with f _
      exact dint_inj f
    subst e2 hm'
    refine g_three G3 H3 v _ _ S3.ii rv fun us ru => ?_
    obtain ⟨v2, v3, v4, rfl, r2, r3, r4⟩ := ru.three
    have hnv : (vpos vs).Nodup := by rw [hv]; exact (rise_trials c ts ts.length).nodup
    have hvl : vs.length ≤ 4000 := by
      have h3 := congrArg List.length hv
      have h4 : (allTr c ts).length ≤ 20 * ts.length := trialsUpTo_len oc ot (Nat.le_refl _)
      have h5 := ot.len
      unfold vpos at h3
      rw [List.length_map] at h3
      omega
    have kkv : Known vs vs := ⟨fun u h => h, hnv⟩
    obtain ⟨ovv, hvvl⟩ := told_ok oc ot hv kkv
    have htb : tbOf (told vs) = tbOf vs := tb_told' hnv
    refine q_asg (K := K) S3.ii (d := .lst ((told vs).map vrD)) (EvF.toD (f_told kkv (e_var rfl r4) (fun x h => match x, h with | [_], _ => rfl) (by omega) (fun G1 e1 y => e_var rfl (r4.ex e1)) (fun y => rfl))) fun v5 G4 H4 s4 r5 => ?_
    have S4 := S3.then s4
    have r2 := r2.ex s4.g
    have r3 := r3.ex s4.g
    have r4 := r4.ex s4.g
    refine q_asg (K := K) S4.ii (d := .lst ((standL c ts (tbOf vs)).map rowD)) (EvD.eq (EvF.toD (f_callm (K := K) (mk.ex S4.gg) (a_cons (e_var rfl r2) (a_cons (e_var rfl r3) (a_one (e_var rfl r5)))) ⟨c, ts, told vs, rfl, oc, ot, ovv, by omega, rfl⟩)) (by rw [htb])) fun v6 G5 H5 s5 r6 => ?_
    have S5 := S4.then s5
    have r2 := r2.ex s5.g
    have r3 := r3.ex s5.g
    have r4 := r4.ex s5.g
    have r5 := r5.ex s5.g
    have mk5 := mk.ex S5.gg
    obtain ⟨ms5, hx5, dok5⟩ := S5.d
    have c5 : Chg G5 (own1 p (.lst (ms5.map V.int))) H5 [p] G5 (own1 p (.lst (ms5.map V.int))) H5 [p] := Chg.refl S5.ii (Owns.one S5.g hx5 ⟨rfl, rfl⟩)
    have dm5 : DiceM (own1 p (.lst (ms5.map V.int))) p := ⟨ms5, own1_same, dok5⟩
    generalize own1 p (.lst (ms5.map V.int)) = M5 at c5 dm5
    refine q_asgNew (K := K) (ds := []) c5 (f_lst a_nil (by show 0 ≤ 100000; decide)) rfl fun bl xs0 G6 H6 e6 hbl c6 rx0 => ?_
    cases rx0
    have nbp : bl ≠ p := fun z => by rw [z, hx5] at hbl; cases hbl
    have dm6 : DiceM (upd M5 bl (.lst [])) p := dm5.keep (upd_ne (Ne.symm nbp))
    have r2 := r2.ex e6
    have r3 := r3.ex e6
    have r4 := r4.ex e6
    have r5 := r5.ex e6
    have r6 := r6.ex e6
    have mk6 := mk5.ex e6
    have hok : (D.lst ((standL c ts (tbOf vs)).map rowD)).ok = true := ok_rows scoresL_ok (by rw [scoresL_len]; have := oc.teams; omega)
    have hva : allOpen c ts (tbOf vs) = [] := open_all hv
    have hex2 : extL c ts (tbOf vs) = (List.range c.teams).map fun t => (placeT c ts (tbOf vs) t, placeT c ts (tbOf vs) t) := ext_same ot hva
    have hteams := oc.teams
    obtain ⟨BD, hBD⟩ : ∃ BD, BD = (placedL (scoresB c ts (tbOf vs) (frozenU c))).map rowD := ⟨_, rfl⟩
    have hokB : (D.lst BD).ok = true := by rw [hBD]; exact ok_rows scoresB_ok (by rw [scoresB_len]; omega)
    have htB : D.tupOA BD = true := by rw [hBD]; exact tupOA_map rowD_tupO _
    show tSeq _ _ _ [some (.ref a), some (.ref p), some v2, some v3, some v4, some v5, some v6, some (.ref bl), none, none, none, none, none, none, none] H6
    refine q_for (K := K) (n := 2) (js := [8]) (E := fun i => [.int i]) c6.s (i_rng1' (n := 2) e_int (by decide)) (fun i hi => g_name)
      (fun i σ' G' H' => ∃ M' as' xs w8 w9 w10 w11 w12 w13 w14, Chg G5 M5 H5 [p] G' M' H' as' ∧ p ∈ as' ∧ DiceM M' p ∧ bl ∈ as' ∧ M' bl = some (.lst xs) ∧ RpA K G' xs (List.replicate i (D.lst BD)) ∧ σ' = [some (.ref a), some (.ref p), some v2, some v3, some v4, some v5, some v6, some (.ref bl), w8, w9, w10, w11, w12, w13, w14])
      (fun G7 H7 s7 => ⟨upd M5 bl (.lst []), _, [], none, none, none, none, none, none, none, c6.then s7, by simp, dm6, by simp, upd_same, .nil, rfl⟩) ?_ ?_
    · rintro Gw ew i hi σ' G' H' S' ew' ⟨M', as', xs, w8, w9, w10, w11, w12, w13, w14, c', hp', dm', hb', hbl', rx, rfl⟩ G7 H7 us s7 ru
      obtain ⟨y, rfl, ry⟩ := ru.one
      have yv := ry.int_of
      subst yv
      have c7 := c'.then s7
      have e7 : Ex G6 G7 := ew.trans (ew'.trans s7.g)
      have rx7 := rx.ex s7.g
      have r2 := r2.ex e7
      have r3 := r3.ex e7
      have r4 := r4.ex e7
      have r5 := r5.ex e7
      have r6 := r6.ex e7
      show tSeq _ _ _ [some (.ref a), some (.ref p), some v2, some v3, some v4, some v5, some v6, some (.ref bl), some (.int (i : Nat)), w9, w10, w11, w12, w13, w14] H7
      refine ⟨_, rfl, _, rfl, _, rfl, _, rfl, ?_⟩
      refine EvR.chg (K := K) (R := Btw 1 5) c7 hp' dm' (r_w (r_add (r_lit (i := 1) (by decide)) (r_off rfl (r_lit (i := 5) (by decide)) (by decide) (by decide))) (by decide) (by decide)) (bt _ fun d ⟨r, e, _⟩ => ⟨r, e⟩) _ fun v9 d9 G8 H8 M8 e8 c8 dm8 hM8 ⟨nj, hd9, hn1, hn5⟩ r9 => ?_
      subst hd9
      cases r9
      refine tNil_go ?_
      show sp__law_goes K [.ref p, v2, v3, v4, .int (nj : Nat)] H8 _ E0
      have r2 := r2.ex e8
      have r3 := r3.ex e8
      have r4 := r4.ex e8
      have r5 := r5.ex e8
      have r6 := r6.ex e8
      refine ⟨p, G8, M8, v2, v3, v4, c, ts, vs, nj, rfl, c8.ii, c8.o, dm8, r2, r3, r4, oc, ot, hl, hv, hn1, hn5, fun G9 M9 H9 as9 h s e9 c9 hp9 dm9 a9 hall9 ph hc hts kp hop => ?_⟩
      have hbl8 : M8 bl = some (.lst xs) := by rw [hM8 bl nbp]; exact hbl'
      have hbl9 : M9 bl = some (.lst xs) := c9.f bl _ hbl8 (fun z => nbp (List.mem_singleton.mp z))
      have cA := c8.trans (c9.wide (as1 := as') (fun b hb => by rw [List.mem_singleton.mp hb]; exact hp'))
      have r2 := r2.ex e9
      have r3 := r3.ex e9
      have r4 := r4.ex e9
      have r5 := r5.ex e9
      have r6 := r6.ex e9
      have rx9 := (rx7.ex e8).ex e9
      have ok9 := a9.ok
      have hst : standL s.c s.ts (tbOf s.us) = standL c ts (tbOf vs) := by
        rw [hc, hts]; exact kp.stand hop
      have hex1 : extL s.c s.ts (tbOf s.us) = (List.range c.teams).map fun t => (placeT c ts (tbOf vs) t, placeT c ts (tbOf vs) t) := by
        rw [hc, hts, ext_same ot hop]
        exact List.map_congr_left fun t _ => by rw [kp.place ot hop t]
      have hbo : (boardL s.c s.ts (tbOf s.us) (frozenU s.c)).map (fun r => rowD (r.1, r.2.1, r.2.2.1)) = BD := by
        rw [board3, hc, hts, kp.scoresB ot oc hop, hBD]
      have hus := vers_len ok9.oc ok9.ot ok9.ov
      have hul : (told s.us).length ≤ 1000000 := by rw [told_len]; omega
      have mkG : ∀ {G M H' : Hp} {as : List Addr}, Chg G5 M5 H5 [p] G M H' as → Mks (over G M) := fun x => mk5.ex (x.gg.trans x.o.gg)
      show tSeq _ _ _ [some (.ref a), some (.ref p), some v2, some v3, some v4, some v5, some v6, some (.ref bl), some (.int (i : Nat)), some (.ref h.o), w10, w11, w12, w13, w14] H9
      refine q_whenC cA (b := false) (b_orF (b_oIsN (a := h.o) (o_name rfl)) (b_orF (b_test (K := K) (EvD.bl (e_neD (d1 := .lst ((standL c ts (tbOf vs)).map rowD)) (d2 := .lst ((standL c ts (tbOf vs)).map rowD)) (EvD.eq (EvF.toD (f_hallG (mkG cA) (o_name rfl) (a9.rd cA.o) (fun _ _ _ _ _ => by rfl))) (by rw [hst])) (e_var rfl (r6.ex cA.o.gg)) hok hok) (by rw [eqv_ok hok]; rfl)))
        (b_test (K := K) (EvD.bl (e_neD (d1 := trsD ts) (d2 := trsD ts) (EvD.eq (EvF.toD (f_hallR (o_name rfl) (a9.rd cA.o) (fun _ _ _ _ _ => by rfl))) (by rw [hts]; rfl)) (e_var rfl (r3.ex cA.o.gg)) (ok_trs ts) (ok_trs ts)) (by rw [eqv_ok (ok_trs ts)]; rfl))))) (fun z => nomatch z) fun _ G10 H10 e10 c10 => ?_
      have a10 := a9.exx e10
      have r2 := r2.ex e10
      have r3 := r3.ex e10
      have r4 := r4.ex e10
      have r5 := r5.ex e10
      have r6 := r6.ex e10
      refine q_whenC c10 (b := false) (b_test (K := K) (EvD.bl (e_neD (d1 := .lst []) (d2 := .lst []) (EvD.eq (EvF.toD (f_lcm (xs := told s.us) (Y := nth ((told s.us).map vrD)) (js := [12]) (fun _ v => [vrD v]) (fun _ => false) vrD (i_seqL' (List.length_map _) (EvF.toD (f_hallR (o_name rfl) (a10.rd c10.o) (fun _ _ _ _ _ => by rfl)))) (fun i x hx => by rw [nth_map hx]; exact g_name) hul (fun _ _ _ => rfl) (fun us _ => wipe_set (by decide)) (fun i x hx G2 e2 us ru => ?_) (fun i x hx hb G2 e2 us ru => nomatch hb))) (by rw [List.filter_eq_nil_iff.mpr fun _ _ => Bool.false_ne_true]; rfl)) (EvF.toD (f_lst a_nil (by show 0 ≤ 100000; decide))) rfl rfl) rfl)) (fun z => nomatch z) fun _ G11 H11 e11 c11 => ?_
      · obtain ⟨y, rfl, ry⟩ := ru.one
        have ht := told_truth ok9.ov.once hnv kp (List.mem_of_getElem? hx)
        exact b_test (K := K) (EvD.bl (e_ne (d1 := .bl x.2.2) (d2 := .bl x.2.2) (e_dget (v := .bl x.2.2) (kvs := vkD vs) (ks := natK (x.1, x.2.1)) (e_var rfl (r4.ex (c10.o.gg.trans e2))) (e_slT (ds := [.int x.1, .int x.2.1, .bl x.2.2]) (es := [.int x.1, .int x.2.1]) (e_var rfl ry) p_none (p_some (e_int (K := K))) (fun z => by have h : (2 : Nat) = 3 := z.2; omega) rfl) rfl ht rfl) (e_ix (d1 := vrD x) (e_var rfl ry) e_int rfl) rfl) (by rw [decide_eq_true rfl]; rfl))
      have a11 := a10.exx e11
      have r2 := r2.ex e11
      have r3 := r3.ex e11
      have r4 := r4.ex e11
      have r5 := r5.ex e11
      have r6 := r6.ex e11
      have hpo := low_pairs8 ((List.range c.teams).map fun t => (placeT c ts (tbOf vs) t, placeT c ts (tbOf vs) t))
      refine q_whenC c11 (b := false) (b_test (K := K) (EvD.bl (e_neD (EvD.eq (EvF.toD (f_hallG (mkG c11) (o_name rfl) (a11.rd c11.o) (fun _ _ _ _ _ => by rfl))) (by rw [hex1])) (EvD.eq (EvF.toD (f_callm (K := K) (mkG c11) (a_cons (e_var rfl (r2.ex c11.o.gg)) (a_cons (e_var rfl (r3.ex c11.o.gg)) (a_one (e_var rfl (r5.ex c11.o.gg))))) ⟨c, ts, told vs, rfl, oc, ot, ovv, by omega, rfl⟩)) (by rw [htb, hex2])) hpo hpo) (by rw [eqv_ok hpo]; rfl))) (fun z => nomatch z) fun _ G12 H12 e12 c12 => ?_
      have a12 := a11.exx e12
      have r2 := r2.ex e12
      have r3 := r3.ex e12
      have r4 := r4.ex e12
      have r5 := r5.ex e12
      have r6 := r6.ex e12
      have hrows : ∀ r ∈ standL c ts (tbOf vs), r.1 = placeT c ts (tbOf vs) r.2.1 := fun r hr => placedL_place8 hr
      have hrlen : (standL c ts (tbOf vs)).length = c.teams := stand_len
      have hget : ∀ t, t < c.teams → valV (mergeK [] ((standL c ts (tbOf vs)).map fun r => ((.inl (r.2.1 : Int) : Key), V.int (r.1 : Int)))) (.inl (t : Int)) = some (V.int ((placeT c ts (tbOf vs) t : Nat) : Int)) := fun t ht => by
        rw [merge_rows8 (P := placeT c ts (tbOf vs)) hrows, if_pos]
        obtain ⟨r, hr, e⟩ := placedL_all8 (ss := scoresL c ts (tbOf vs) (wholeU c)) (t := t) (by rw [scoresL_len]; exact ht)
        exact List.any_eq_true.mpr ⟨r, hr, decide_eq_true e⟩
      refine q_asgKC (K := K) (kvs := mergeK [] ((standL c ts (tbOf vs)).map fun r => ((.inl (r.2.1 : Int) : Key), V.int (r.1 : Int)))) c12 (fk_dictP (K := K) (EvF.toD (f_lcm (xs := standL c ts (tbOf vs)) (Y := nth ((standL c ts (tbOf vs)).map rowD)) (js := [13]) (fun _ r => [rowD r]) (fun _ => true) (fun r => .tup [.int r.2.1, .int r.1])
        (i_seqL' (List.length_map _) (e_var rfl (r6.ex c12.o.gg))) (fun j x hx => by rw [nth_map hx]; exact g_name) (by omega) (fun _ _ _ => rfl) (fun us _ => wipe_set (by decide)) (fun _ _ _ _ _ _ _ => b_yes) (fun j x hx _ Gb eb us ru => ?_))) ?_ ?_) fun v10 G13 H13 e13 c13 r10 => ?_
      · obtain ⟨z, rfl, rz⟩ := ru.one
        exact e_tup2 (e_ix (d1 := rowD x) (e_var rfl rz) e_int rfl) (e_ix (d1 := rowD x) (e_var rfl rz) e_int rfl)
      · rw [List.filter_eq_self.mpr (fun _ _ => rfl), List.map_map]
        rfl
      · intro kv hkv
        obtain ⟨r, _, rfl⟩ := List.mem_map.mp hkv
        rfl
      have a13 := a12.exx e13
      have r2 := r2.ex e13
      have r3 := r3.ex e13
      have r4 := r4.ex e13
      have r5 := r5.ex e13
      have r6 := r6.ex e13
      refine q_whenC c13 (b := false) (b_test (K := K) (EvD.bl (e_neD (EvD.eq (EvF.toD (f_hallG (mkG c13) (o_name rfl) (a13.rd c13.o) (fun _ _ _ _ _ => by rfl))) (by rw [hex1])) (EvD.eq (EvF.toD (f_lc (n := c.teams) (js := [14]) (fun t => [.int t]) (fun _ => true) (fun t => natP (placeT c ts (tbOf vs) t, placeT c ts (tbOf vs) t)) (i_rng1' (e_ix (d1 := c.d) (e_var rfl (r2.ex c13.o.gg)) e_int rfl) (by omega)) (fun _ _ => g_name) (by omega) (fun _ _ => rfl)
        (fun us _ => wipe_set (by decide)) (fun _ _ _ _ _ _ => b_yes) (fun t ht _ Ge ee us ru => ?_))) (by rw [pick_all, List.map_map]; rfl)) hpo hpo) (by rw [eqv_ok hpo]; rfl))) (fun z => nomatch z) fun _ G14 H14 e14 c14 => ?_
      · obtain ⟨u, rfl, ru1⟩ := ru.one
        exact e_tup2 (e_dgetK (k := .inl (t : Int)) (v := .int ((placeT c ts (tbOf vs) t : Nat) : Int)) (e_var rfl ((r10.ex c13.o.gg).ex ee)) (e_var rfl ru1) (hget t ht) rfl) (e_dgetK (k := .inl (t : Int)) (v := .int ((placeT c ts (tbOf vs) t : Nat) : Int)) (e_var rfl ((r10.ex c13.o.gg).ex ee)) (e_var rfl ru1) (hget t ht) rfl)
      have a14 := a13.exx e14
      have rx14 := rx9.ex (e10.trans (e11.trans (e12.trans (e13.trans e14))))
      have hbll : (boardL s.c s.ts (tbOf s.us) (frozenU s.c)).length ≤ 1000 := by
        rw [boardL_len8]
        have := ok9.oc.teams
        omega
      have hxl : xs.length = i := by rw [rx14.len, List.length_replicate]
      refine s_appF (K := K) (ds := BD) c14 (List.mem_append_right _ hb') hbl9 (o_name rfl) (EvF.eq (f_lcm (xs := boardL s.c s.ts (tbOf s.us) (frozenU s.c)) (Y := nth ((boardL s.c s.ts (tbOf s.us) (frozenU s.c)).map brD)) (js := [13]) (fun _ r => [brD r]) (fun _ => true) (fun r => rowD (r.1, r.2.1, r.2.2.1)) (i_seqL' (List.length_map _) (EvF.toD (f_hallG (mkG c14) (o_name rfl) (a14.rd c14.o) (fun _ _ _ _ _ => by rfl)))) (fun j x hx => by rw [nth_map hx]; exact g_name) (by omega) (fun _ _ _ => rfl) (fun us _ => wipe_set (by decide)) (fun _ _ _ _ _ _ _ => b_yes) (fun j x hx _ Gb eb us ru => ?_)) (by rw [List.filter_eq_self.mpr (fun _ _ => rfl), hbo])) htB (by omega) fun vb G15 H15 e15 c15 rb => ?_
      · obtain ⟨z, rfl, rz⟩ := ru.one
        exact e_slT (ds := [.int x.1, .int x.2.1, scD x.2.2.1, .tup (x.2.2.2.map natD)]) (es := [.int x.1, .int x.2.1, scD x.2.2.1]) (e_var rfl rz) p_none (p_some (e_int (K := K))) (fun z => by have h : (3 : Nat) = 4 := z.2; omega) rfl
      refine ⟨G15, c15.s, ew'.trans (s7.g.trans (e8.trans (e9.trans (e10.trans (e11.trans (e12.trans (e13.trans (e14.trans e15)))))))), _, _, xs ++ [vb], _, _, _, _, _, _, _, c15, List.mem_append_right _ hp', dm9.keep (upd_ne (Ne.symm nbp)), List.mem_append_right _ hb', upd_same, ?_, rfl⟩
      rw [List.replicate_succ']
      exact (rx14.ex e15).snoc rb
    · rintro σ' G' H' S' ew' ⟨M', as', xs, w8, w9, w10, w11, w12, w13, w14, c', hp', dm', hb', hbl', rx, rfl⟩
      have r2 := r2.ex ew'
      have r3 := r3.ex ew'
      have r4 := r4.ex ew'
      have r5 := r5.ex ew'
      have r6 := r6.ex ew'
      have rx : RpA K G' xs [D.lst BD, D.lst BD] := rx
      have hbll : (boardL c ts (tbOf vs) (frozenU c)).length ≤ 1000 := by
        rw [boardL_len8]
        omega
      have mk' : Mks (over G' M') := mk5.ex (c'.gg.trans c'.o.gg)
      have gg := c'.o.gg
      refine s_retC (K := K) (d := .bl true) c' (EvD.bl (e_chain (a := true) (b := true) (d1 := .lst BD) (d2 := .lst BD) (d3 := .lst BD) (e_ix (d1 := .lst [D.lst BD, D.lst BD]) (e_var rfl (.lst (over_some hbl') (rx.ex gg))) e_int rfl) (e_ix (d1 := .lst [D.lst BD, D.lst BD]) (e_var rfl (.lst (over_some hbl') (rx.ex gg))) e_int rfl)
        (fun _ => EvD.eq (EvF.toD (f_lcm (xs := boardL c ts (tbOf vs) (frozenU c)) (Y := nth ((boardL c ts (tbOf vs) (frozenU c)).map brD)) (js := [13]) (fun _ r => [brD r]) (fun _ => true) (fun r => rowD (r.1, r.2.1, r.2.2.1)) (i_seqL' (List.length_map _) (EvD.eq (EvF.toD (f_callm (K := K) mk' (a_cons (e_var rfl (r2.ex gg)) (a_cons (e_var rfl (r3.ex gg)) (a_one (e_var rfl (r5.ex gg))))) ⟨c, ts, told vs, rfl, oc, ot, ovv, by omega, rfl⟩)) (by rw [htb]))) (fun j x hx => by rw [nth_map hx]; exact g_name) (by omega) (fun _ _ _ => rfl) (fun us _ => wipe_set (by decide)) (fun _ _ _ _ _ _ _ => b_yes) (fun j x hx _ Gb eb us ru => ?_))) (by rw [List.filter_eq_self.mpr (fun _ _ => rfl), board3, hBD]))
        (fun x y G1 H1 Q e1 e2 r1 r2 k => eq_vals (r1.ex e2) (r2.ex e2) hokB hokB (by rw [eqv_ok hokB]; exact k)) (fun x y G1 H1 Q e1 e2 r1 r2 k => eq_vals (r1.ex e2) (r2.ex e2) hokB hokB (by rw [eqv_ok hokB]; exact k))) rfl) rfl fun v G7 H7 e7 c7 rv => ?_
      · obtain ⟨z, rfl, rz⟩ := ru.one
        exact e_slT (ds := [.int x.1, .int x.2.1, scD x.2.2.1, .tup (x.2.2.2.map natD)]) (es := [.int x.1, .int x.2.1, scD x.2.2.1]) (e_var rfl rz) p_none (p_some (e_int (K := K))) (fun z => by have h : (3 : Nat) = 4 := z.2; omega) rfl
      cases rv
      exact k _

end

end J
namespace J
open PySem PySem.Spec PyProof.Rows L2
def dn_frozen_untils : He.DefD := ⟨("frozen_untils", none), "frozen_untils", "frozen_untils", defArgs s_frozen_untils, defBody s_frozen_untils, defScope s_frozen_untils, [], []⟩
def dn_numbers_of : He.DefD := ⟨("numbers_of", none), "numbers_of", "numbers_of", defArgs s_numbers_of, defBody s_numbers_of, defScope s_numbers_of, [], []⟩
def dn_state_of : He.DefD := ⟨("state_of", none), "state_of", "state_of", defArgs s_state_of, defBody s_state_of, defScope s_state_of, [], []⟩
def dn_group_states : He.DefD := ⟨("group_states", none), "group_states", "group_states", defArgs s_group_states, defBody s_group_states, defScope s_group_states, [], []⟩
def dn_try_state : He.DefD := ⟨("try_state", none), "try_state", "try_state", defArgs s_try_state, defBody s_try_state, defScope s_try_state, [], []⟩
def dn_solved_at : He.DefD := ⟨("solved_at", none), "solved_at", "solved_at", defArgs s_solved_at, defBody s_solved_at, defScope s_solved_at, [], []⟩
def dn_hidden_of : He.DefD := ⟨("hidden_of", none), "hidden_of", "hidden_of", defArgs s_hidden_of, defBody s_hidden_of, defScope s_hidden_of, [], []⟩
def dn_rank_of : He.DefD := ⟨("rank_of", none), "rank_of", "rank_of", defArgs s_rank_of, defBody s_rank_of, defScope s_rank_of, [], []⟩
def dn_placed : He.DefD := ⟨("placed", none), "placed", "placed", defArgs s_placed, defBody s_placed, defScope s_placed, [], []⟩
def dn_worth_of : He.DefD := ⟨("worth_of", none), "worth_of", "worth_of", defArgs s_worth_of, defBody s_worth_of, defScope s_worth_of, [], []⟩
def dn_points_at : He.DefD := ⟨("points_at", none), "points_at", "points_at", defArgs s_points_at, defBody s_points_at, defScope s_points_at, [], []⟩
def dn_score_of : He.DefD := ⟨("score_of", none), "score_of", "score_of", defArgs s_score_of, defBody s_score_of, defScope s_score_of, [], []⟩
def dn_rows_of : He.DefD := ⟨("rows_of", none), "rows_of", "rows_of", defArgs s_rows_of, defBody s_rows_of, defScope s_rows_of, [], []⟩
def dn_Hall_board : He.DefD := ⟨("Hall", some "board"), "board", "Hall.board", defArgs s_Hall_board, defBody s_Hall_board, defScope s_Hall_board, [], []⟩
def dn_trials_of : He.DefD := ⟨("trials_of", none), "trials_of", "trials_of", defArgs s_trials_of, defBody s_trials_of, defScope s_trials_of, [], []⟩
def dn_filled : He.DefD := ⟨("filled", none), "filled", "filled", defArgs s_filled, defBody s_filled, defScope s_filled, [], []⟩
def dn_whole_untils : He.DefD := ⟨("whole_untils", none), "whole_untils", "whole_untils", defArgs s_whole_untils, defBody s_whole_untils, defScope s_whole_untils, [], []⟩
def dn_all_placed : He.DefD := ⟨("all_placed", none), "all_placed", "all_placed", defArgs s_all_placed, defBody s_all_placed, defScope s_all_placed, [], []⟩
def dn_place_in : He.DefD := ⟨("place_in", none), "place_in", "place_in", defArgs s_place_in, defBody s_place_in, defScope s_place_in, [], []⟩
def dn_extremes : He.DefD := ⟨("extremes", none), "extremes", "extremes", defArgs s_extremes, defBody s_extremes, defScope s_extremes, [], []⟩
def dn_Hall_could : He.DefD := ⟨("Hall", some "could"), "could", "Hall.could", defArgs s_Hall_could, defBody s_Hall_could, defScope s_Hall_could, [], []⟩
def dn_Hall_standings : He.DefD := ⟨("Hall", some "standings"), "standings", "Hall.standings", defArgs s_Hall_standings, defBody s_Hall_standings, defScope s_Hall_standings, [], []⟩
def dn_Hall_tries : He.DefD := ⟨("Hall", some "tries"), "tries", "Hall.tries", defArgs s_Hall_tries, defBody s_Hall_tries, defScope s_Hall_tries, [], []⟩
def dn_Hall_verdicts : He.DefD := ⟨("Hall", some "verdicts"), "verdicts", "Hall.verdicts", defArgs s_Hall_verdicts, defBody s_Hall_verdicts, defScope s_Hall_verdicts, [], []⟩
def dn__law_off : He.DefD := ⟨("_law_off", none), "_law_off", "_law_off", defArgs s__law_off, defBody s__law_off, defScope s__law_off, [], []⟩
def dn__law_contest : He.DefD := ⟨("_law_contest", none), "_law_contest", "_law_contest", defArgs s__law_contest, defBody s__law_contest, defScope s__law_contest, [], []⟩
def dn__law_tries : He.DefD := ⟨("_law_tries", none), "_law_tries", "_law_tries", defArgs s__law_tries, defBody s__law_tries, defScope s__law_tries, [], []⟩
def dn__law_size : He.DefD := ⟨("_law_size", none), "_law_size", "_law_size", defArgs s__law_size, defBody s__law_size, defScope s__law_size, [], []⟩
def dn__law_truth : He.DefD := ⟨("_law_truth", none), "_law_truth", "_law_truth", defArgs s__law_truth, defBody s__law_truth, defScope s__law_truth, [], []⟩
def dn__law_case : He.DefD := ⟨("_law_case", none), "_law_case", "_law_case", defArgs s__law_case, defBody s__law_case, defScope s__law_case, [], []⟩
def dn__law_dice : He.DefD := ⟨("_law_dice", none), "_law_dice", "_law_dice", defArgs s__law_dice, defBody s__law_dice, defScope s__law_dice, [], []⟩
def dn_is_between : He.DefD := ⟨("is_between", none), "is_between", "is_between", defArgs s_is_between, defBody s_is_between, defScope s_is_between, [], []⟩
def dn_is_group : He.DefD := ⟨("is_group", none), "is_group", "is_group", defArgs s_is_group, defBody s_is_group, defScope s_is_group, [], []⟩
def dn_need_tasks : He.DefD := ⟨("need_tasks", none), "need_tasks", "need_tasks", defArgs s_need_tasks, defBody s_need_tasks, defScope s_need_tasks, [], []⟩
def dn_need_contest : He.DefD := ⟨("need_contest", none), "need_contest", "need_contest", defArgs s_need_contest, defBody s_need_contest, defScope s_need_contest, [], []⟩
def dn_Hall_init : He.DefD := ⟨("Hall", some "__init__"), "__init__", "Hall.__init__", defArgs s_Hall_init, defBody s_Hall_init, defScope s_Hall_init, [], []⟩
def dn_Hall_need_judge : He.DefD := ⟨("Hall", some "need_judge"), "need_judge", "Hall.need_judge", defArgs s_Hall_need_judge, defBody s_Hall_need_judge, defScope s_Hall_need_judge, [], []⟩
def dn_Hall_fall : He.DefD := ⟨("Hall", some "fall"), "fall", "Hall.fall", defArgs s_Hall_fall, defBody s_Hall_fall, defScope s_Hall_fall, [], []⟩
def dn_Hall_had : He.DefD := ⟨("Hall", some "had"), "had", "Hall.had", defArgs s_Hall_had, defBody s_Hall_had, defScope s_Hall_had, [], []⟩
def dn_Hall_mend : He.DefD := ⟨("Hall", some "mend"), "mend", "Hall.mend", defArgs s_Hall_mend, defBody s_Hall_mend, defScope s_Hall_mend, [], []⟩
def dn_Hall_offer : He.DefD := ⟨("Hall", some "offer"), "offer", "Hall.offer", defArgs s_Hall_offer, defBody s_Hall_offer, defScope s_Hall_offer, [], []⟩
def dn_is_over : He.DefD := ⟨("is_over", none), "is_over", "is_over", defArgs s_is_over, defBody s_is_over, defScope s_is_over, [], []⟩
def dn_open_trials : He.DefD := ⟨("open_trials", none), "open_trials", "open_trials", defArgs s_open_trials, defBody s_open_trials, defScope s_open_trials, [], []⟩
def dn_all_open : He.DefD := ⟨("all_open", none), "all_open", "all_open", defArgs s_all_open, defBody s_all_open, defScope s_all_open, [], []⟩
def dn_Hall_free : He.DefD := ⟨("Hall", some "free"), "free", "Hall.free", defArgs s_Hall_free, defBody s_Hall_free, defScope s_Hall_free, [], []⟩
def dn_Hall_take : He.DefD := ⟨("Hall", some "take"), "take", "Hall.take", defArgs s_Hall_take, defBody s_Hall_take, defScope s_Hall_take, [], []⟩
def dn_Hall_tell : He.DefD := ⟨("Hall", some "tell"), "tell", "Hall.tell", defArgs s_Hall_tell, defBody s_Hall_tell, defScope s_Hall_tell, [], []⟩
def dn__law_goes : He.DefD := ⟨("_law_goes", none), "_law_goes", "_law_goes", defArgs s__law_goes, defBody s__law_goes, defScope s__law_goes, [], []⟩
def dn_is_try : He.DefD := ⟨("is_try", none), "is_try", "is_try", defArgs s_is_try, defBody s_is_try, defScope s_is_try, [], []⟩
def dn_need_tries : He.DefD := ⟨("need_tries", none), "need_tries", "need_tries", defArgs s_need_tries, defBody s_need_tries, defScope s_need_tries, [], []⟩
def dn_is_verdict : He.DefD := ⟨("is_verdict", none), "is_verdict", "is_verdict", defArgs s_is_verdict, defBody s_is_verdict, defScope s_is_verdict, [], []⟩
def dn_need_verdicts : He.DefD := ⟨("need_verdicts", none), "need_verdicts", "need_verdicts", defArgs s_need_verdicts, defBody s_need_verdicts, defScope s_need_verdicts, [], []⟩
def dn_need_all : He.DefD := ⟨("need_all", none), "need_all", "need_all", defArgs s_need_all, defBody s_need_all, defScope s_need_all, [], []⟩
def dn_table_of : He.DefD := ⟨("table_of", none), "table_of", "table_of", defArgs s_table_of, defBody s_table_of, defScope s_table_of, [], []⟩
def dn_board : He.DefD := ⟨("board", none), "board", "board", defArgs s_board, defBody s_board, defScope s_board, [], []⟩
def dn_could : He.DefD := ⟨("could", none), "could", "could", defArgs s_could, defBody s_could, defScope s_could, [], []⟩
def dn_standings : He.DefD := ⟨("standings", none), "standings", "standings", defArgs s_standings, defBody s_standings, defScope s_standings, [], []⟩
def dn_law : He.DefD := ⟨("law", none), "law", "law", defArgs s_law, defBody s_law, defScope s_law, [], []⟩
def fn : List He.DefD := [dn_frozen_untils, dn_numbers_of, dn_state_of, dn_group_states, dn_try_state, dn_solved_at, dn_hidden_of, dn_rank_of, dn_placed, dn_worth_of, dn_points_at, dn_score_of, dn_rows_of, dn_Hall_board, dn_trials_of, dn_filled, dn_whole_untils, dn_all_placed, dn_place_in, dn_extremes, dn_Hall_could, dn_Hall_standings, dn_Hall_tries, dn_Hall_verdicts, dn__law_off, dn__law_contest, dn__law_tries, dn__law_size, dn__law_truth, dn__law_case, dn__law_dice, dn_is_between, dn_is_group, dn_need_tasks, dn_need_contest, dn_Hall_init, dn_Hall_need_judge, dn_Hall_fall, dn_Hall_had, dn_Hall_mend, dn_Hall_offer, dn_is_over, dn_open_trials, dn_all_open, dn_Hall_free, dn_Hall_take, dn_Hall_tell, dn__law_goes, dn_is_try, dn_need_tries, dn_is_verdict, dn_need_verdicts, dn_need_all, dn_table_of, dn_board, dn_could, dn_standings, dn_law]
def fa : List He.Fa := [.glo "frozen_untils", .glo "numbers_of", .glo "state_of", .glo "group_states", .glo "try_state", .glo "solved_at", .glo "hidden_of", .glo "rank_of", .glo "placed", .glo "worth_of", .glo "points_at", .glo "score_of", .glo "rows_of", .glo "trials_of", .glo "filled", .glo "whole_untils", .glo "all_placed", .glo "place_in", .glo "extremes", .glo "_law_off", .glo "_law_contest", .glo "_law_tries", .glo "_law_size", .glo "_law_truth", .glo "_law_case", .glo "_law_dice", .glo "is_between", .glo "is_group", .glo "need_tasks", .glo "need_contest", .glo "is_over", .glo "open_trials", .glo "all_open", .glo "_law_goes", .glo "is_try", .glo "need_tries", .glo "is_verdict", .glo "need_verdicts", .glo "need_all", .glo "table_of", .glo "board", .glo "could", .glo "standings", .glo "law", .cls "Hall", .meth "Hall" "board", .meth "Hall" "could", .meth "Hall" "standings", .meth "Hall" "tries", .meth "Hall" "verdicts", .meth "Hall" "need_judge", .meth "Hall" "fall", .meth "Hall" "had", .meth "Hall" "mend", .meth "Hall" "offer", .meth "Hall" "free", .meth "Hall" "take", .meth "Hall" "tell", .glo "Hall", .mkr "Hall", .str "BEST" "best", .str "FAILED" "failed", .str "FIRST" "first", .int "LATE" 60, .int "MOST_END" 300, .int "MOST_GROUPS" 4, .int "MOST_JUDGES" 5, .int "MOST_POINTS" 100, .int "MOST_TASKS" 6, .int "MOST_TEAMS" 12, .int "MOST_TIME" 999, .int "MOST_TRIALS" 5, .int "MOST_TRIES" 200, .str "OPEN" "open", .str "PASSED" "passed", .glo "RULES", .int "WRONG" 20, .noat "Hall" "contest", .noat "Hall" "events", .noat "Hall" "offered", .noat "Hall" "table", .noat "Hall" "works", .free "abs", .free "bool", .free "dict", .free "enumerate", .free "int", .free "isinstance", .free "len", .free "list", .free "max", .free "min", .free "range", .free "sorted", .free "str", .free "sum", .free "tuple"]
def tabK : List He.Tab := []
def ex (K : PySem.W.Frag) : Bool := (He.tupB K "RULES" [.str (PySem.Str.ofString "first"), .str (PySem.Str.ofString "best"), .str (PySem.Str.ofString "groups")])
theorem ex0 {K : PySem.W.Frag} (h : ex K = true) : (He.tupB K "RULES" [.str (PySem.Str.ofString "first"), .str (PySem.Str.ofString "best"), .str (PySem.Str.ofString "groups")]) = true := h
def loose0 : List PySem.Str := ["_wall", "__name__", "HallError", "ValueError", "BadContest", "BadTries", "BadVerdicts", "BadTeam", "BadTask", "BadTrial", "BadTime", "BadJudge", "Busy", "Idle", "Full", "FIRST", "BEST", "GROUPS", "RULES", "MOST_TEAMS", "MOST_TASKS", "MOST_GROUPS", "MOST_TRIALS", "MOST_POINTS", "MOST_END", "MOST_TRIES", "MOST_TIME", "is_between", "is_group", "need_tasks"]
def loose1 : List PySem.Str := ["need_contest", "trials_of", "is_try", "need_tries", "is_verdict", "need_verdicts", "need_all", "table_of", "PASSED", "FAILED", "OPEN", "WRONG", "LATE", "state_of", "group_states", "try_state", "numbers_of", "solved_at", "worth_of", "points_at", "score_of", "rank_of", "placed", "whole_untils", "all_placed", "standings", "is_over", "open_trials", "all_open", "filled"]
def loose2 : List PySem.Str := ["hidden_of", "rows_of", "frozen_untils", "board", "place_in", "extremes", "could", "MOST_JUDGES", "Hall", "_law_dice", "_law_off", "_law_contest", "_law_tries", "_law_size", "_law_truth", "_law_case", "_law_goes"]
def loose : List PySem.Str := loose0 ++ loose1 ++ loose2
abbrev R : PySem.W.OpenRow := PySem.W.OpenLaw.row PySem.Challenge.rw_judgehall_k08_whole_whoever_judges_when
def tf : List He.Defn := [("placed", none)]
abbrev hk : PySem.W.Hook := He.hookX 4 fa fn tabK tf ex
def ob (s : PySem.W.SharedT) : He.AlX := He.obsX 4 fa fn tabK tf ex (HandSHeadRun.getT s)
theorem ob_eq (s : PySem.W.SharedT) : ob s = hk.obs s.abs := He.obsX_eq (HandSHeadRun.getT_eq s)
set_option maxHeartbeats 0 in
theorem run (w : World) : HandSHeadRun.RunEq R (PySem.W.view R.prog [83]) hk ob 60000 loose w := by
  intro os
  kernel_rfl
def tbs (K : PySem.W.Frag) : Tbs := ⟨fun _ => ("placed" : Str) ++ ".<locals>." ++ "<lambda>", (He.cT K ("placed", none)).2, (He.cT K ("placed", none)).2⟩
theorem hq_placed (K : PySem.W.Frag) : ("placed" : Str) ++ ".<locals>." ++ "<lambda>" = (tbs K).q (tbs K).p1 := rfl
theorem facts {w : World} {K : PySem.W.Frag} {h : Heap} {mg : Str → Option Value} {f : Addr} (X : K.In h) (G : h.Ns mainGlobals mg) (hfa : mg ("law" : Str) = some (.ref f)) (c : He.SaysX fa fn tabK tf ex w h K) : LamX.LawAtS PySem.Challenge.rw_judgehall_k08_whole_whoever_judges_when w K CX0 10 63 "_law_script" mg f h := by
  letI : Tbs := tbs K
  obtain ⟨fd_frozen_untils, F_frozen_untils⟩ := c.t.d.def_ 0 (d := dn_frozen_untils) rfl
  obtain ⟨fd_numbers_of, F_numbers_of⟩ := c.t.d.def_ 1 (d := dn_numbers_of) rfl
  obtain ⟨fd_state_of, F_state_of⟩ := c.t.d.def_ 2 (d := dn_state_of) rfl
  obtain ⟨fd_group_states, F_group_states⟩ := c.t.d.def_ 3 (d := dn_group_states) rfl
  obtain ⟨fd_try_state, F_try_state⟩ := c.t.d.def_ 4 (d := dn_try_state) rfl
  obtain ⟨fd_solved_at, F_solved_at⟩ := c.t.d.def_ 5 (d := dn_solved_at) rfl
  obtain ⟨fd_hidden_of, F_hidden_of⟩ := c.t.d.def_ 6 (d := dn_hidden_of) rfl
  obtain ⟨fd_rank_of, F_rank_of⟩ := c.t.d.def_ 7 (d := dn_rank_of) rfl
  obtain ⟨fd_placed, F_placed⟩ := c.t.d.def_ 8 (d := dn_placed) rfl
  obtain ⟨fd_worth_of, F_worth_of⟩ := c.t.d.def_ 9 (d := dn_worth_of) rfl
  obtain ⟨fd_points_at, F_points_at⟩ := c.t.d.def_ 10 (d := dn_points_at) rfl
  obtain ⟨fd_score_of, F_score_of⟩ := c.t.d.def_ 11 (d := dn_score_of) rfl
  obtain ⟨fd_rows_of, F_rows_of⟩ := c.t.d.def_ 12 (d := dn_rows_of) rfl
  obtain ⟨fd_Hall_board, F_Hall_board⟩ := c.t.d.def_ 13 (d := dn_Hall_board) rfl
  obtain ⟨fd_trials_of, F_trials_of⟩ := c.t.d.def_ 14 (d := dn_trials_of) rfl
  obtain ⟨fd_filled, F_filled⟩ := c.t.d.def_ 15 (d := dn_filled) rfl
  obtain ⟨fd_whole_untils, F_whole_untils⟩ := c.t.d.def_ 16 (d := dn_whole_untils) rfl
  obtain ⟨fd_all_placed, F_all_placed⟩ := c.t.d.def_ 17 (d := dn_all_placed) rfl
  obtain ⟨fd_place_in, F_place_in⟩ := c.t.d.def_ 18 (d := dn_place_in) rfl
  obtain ⟨fd_extremes, F_extremes⟩ := c.t.d.def_ 19 (d := dn_extremes) rfl
  obtain ⟨fd_Hall_could, F_Hall_could⟩ := c.t.d.def_ 20 (d := dn_Hall_could) rfl
  obtain ⟨fd_Hall_standings, F_Hall_standings⟩ := c.t.d.def_ 21 (d := dn_Hall_standings) rfl
  obtain ⟨fd_Hall_tries, F_Hall_tries⟩ := c.t.d.def_ 22 (d := dn_Hall_tries) rfl
  obtain ⟨fd_Hall_verdicts, F_Hall_verdicts⟩ := c.t.d.def_ 23 (d := dn_Hall_verdicts) rfl
  obtain ⟨fd__law_off, F__law_off⟩ := c.t.d.def_ 24 (d := dn__law_off) rfl
  obtain ⟨fd__law_contest, F__law_contest⟩ := c.t.d.def_ 25 (d := dn__law_contest) rfl
  obtain ⟨fd__law_tries, F__law_tries⟩ := c.t.d.def_ 26 (d := dn__law_tries) rfl
  obtain ⟨fd__law_size, F__law_size⟩ := c.t.d.def_ 27 (d := dn__law_size) rfl
  obtain ⟨fd__law_truth, F__law_truth⟩ := c.t.d.def_ 28 (d := dn__law_truth) rfl
  obtain ⟨fd__law_case, F__law_case⟩ := c.t.d.def_ 29 (d := dn__law_case) rfl
  obtain ⟨fd__law_dice, F__law_dice⟩ := c.t.d.def_ 30 (d := dn__law_dice) rfl
  obtain ⟨fd_is_between, F_is_between⟩ := c.t.d.def_ 31 (d := dn_is_between) rfl
  obtain ⟨fd_is_group, F_is_group⟩ := c.t.d.def_ 32 (d := dn_is_group) rfl
  obtain ⟨fd_need_tasks, F_need_tasks⟩ := c.t.d.def_ 33 (d := dn_need_tasks) rfl
  obtain ⟨fd_need_contest, F_need_contest⟩ := c.t.d.def_ 34 (d := dn_need_contest) rfl
  obtain ⟨fd_Hall_init, F_Hall_init⟩ := c.t.d.def_ 35 (d := dn_Hall_init) rfl
  obtain ⟨fd_Hall_need_judge, F_Hall_need_judge⟩ := c.t.d.def_ 36 (d := dn_Hall_need_judge) rfl
  obtain ⟨fd_Hall_fall, F_Hall_fall⟩ := c.t.d.def_ 37 (d := dn_Hall_fall) rfl
  obtain ⟨fd_Hall_had, F_Hall_had⟩ := c.t.d.def_ 38 (d := dn_Hall_had) rfl
  obtain ⟨fd_Hall_mend, F_Hall_mend⟩ := c.t.d.def_ 39 (d := dn_Hall_mend) rfl
  obtain ⟨fd_Hall_offer, F_Hall_offer⟩ := c.t.d.def_ 40 (d := dn_Hall_offer) rfl
  obtain ⟨fd_is_over, F_is_over⟩ := c.t.d.def_ 41 (d := dn_is_over) rfl
  obtain ⟨fd_open_trials, F_open_trials⟩ := c.t.d.def_ 42 (d := dn_open_trials) rfl
  obtain ⟨fd_all_open, F_all_open⟩ := c.t.d.def_ 43 (d := dn_all_open) rfl
  obtain ⟨fd_Hall_free, F_Hall_free⟩ := c.t.d.def_ 44 (d := dn_Hall_free) rfl
  obtain ⟨fd_Hall_take, F_Hall_take⟩ := c.t.d.def_ 45 (d := dn_Hall_take) rfl
  obtain ⟨fd_Hall_tell, F_Hall_tell⟩ := c.t.d.def_ 46 (d := dn_Hall_tell) rfl
  obtain ⟨fd__law_goes, F__law_goes⟩ := c.t.d.def_ 47 (d := dn__law_goes) rfl
  obtain ⟨fd_is_try, F_is_try⟩ := c.t.d.def_ 48 (d := dn_is_try) rfl
  obtain ⟨fd_need_tries, F_need_tries⟩ := c.t.d.def_ 49 (d := dn_need_tries) rfl
  obtain ⟨fd_is_verdict, F_is_verdict⟩ := c.t.d.def_ 50 (d := dn_is_verdict) rfl
  obtain ⟨fd_need_verdicts, F_need_verdicts⟩ := c.t.d.def_ 51 (d := dn_need_verdicts) rfl
  obtain ⟨fd_need_all, F_need_all⟩ := c.t.d.def_ 52 (d := dn_need_all) rfl
  obtain ⟨fd_table_of, F_table_of⟩ := c.t.d.def_ 53 (d := dn_table_of) rfl
  obtain ⟨fd_board, F_board⟩ := c.t.d.def_ 54 (d := dn_board) rfl
  obtain ⟨fd_could, F_could⟩ := c.t.d.def_ 55 (d := dn_could) rfl
  obtain ⟨fd_standings, F_standings⟩ := c.t.d.def_ 56 (d := dn_standings) rfl
  obtain ⟨fd_law, F_law⟩ := c.t.d.def_ 57 (d := dn_law) rfl
  have T : Tx K mg := ⟨He.free_ok X G (c.t.d.fact 82 (f := .free "abs") rfl), He.free_ok X G (c.t.d.fact 83 (f := .free "bool") rfl), He.free_ok X G (c.t.d.fact 84 (f := .free "dict") rfl), He.free_ok X G (c.t.d.fact 85 (f := .free "enumerate") rfl), He.free_ok X G (c.t.d.fact 86 (f := .free "int") rfl), He.free_ok X G (c.t.d.fact 87 (f := .free "isinstance") rfl), He.free_ok X G (c.t.d.fact 88 (f := .free "len") rfl), He.free_ok X G (c.t.d.fact 89 (f := .free "list") rfl), He.free_ok X G (c.t.d.fact 90 (f := .free "max") rfl), He.free_ok X G (c.t.d.fact 91 (f := .free "min") rfl), He.free_ok X G (c.t.d.fact 92 (f := .free "range") rfl), He.free_ok X G (c.t.d.fact 93 (f := .free "sorted") rfl), He.free_ok X G (c.t.d.fact 94 (f := .free "str") rfl), He.free_ok X G (c.t.d.fact 95 (f := .free "sum") rfl), He.free_ok X G (c.t.d.fact 96 (f := .free "tuple") rfl), He.str_ok X G (c.t.d.fact 62 (f := .str "FIRST" "first") rfl), He.str_ok X G (c.t.d.fact 60 (f := .str "BEST" "best") rfl), ⟨He.ga K "RULES", He.glo_ok X G (c.t.d.fact 75 (f := .glo "RULES") rfl), fun H => He.tupB_ok (ex0 c.more) H⟩, He.int_ok X G (c.t.d.fact 69 (f := .int "MOST_TEAMS" 12) rfl), He.int_ok X G (c.t.d.fact 68 (f := .int "MOST_TASKS" 6) rfl), He.int_ok X G (c.t.d.fact 65 (f := .int "MOST_GROUPS" 4) rfl), He.int_ok X G (c.t.d.fact 71 (f := .int "MOST_TRIALS" 5) rfl), He.int_ok X G (c.t.d.fact 67 (f := .int "MOST_POINTS" 100) rfl), He.int_ok X G (c.t.d.fact 64 (f := .int "MOST_END" 300) rfl), He.int_ok X G (c.t.d.fact 72 (f := .int "MOST_TRIES" 200) rfl), He.int_ok X G (c.t.d.fact 70 (f := .int "MOST_TIME" 999) rfl), He.str_ok X G (c.t.d.fact 74 (f := .str "PASSED" "passed") rfl), He.str_ok X G (c.t.d.fact 61 (f := .str "FAILED" "failed") rfl), He.str_ok X G (c.t.d.fact 73 (f := .str "OPEN" "open") rfl), He.int_ok X G (c.t.d.fact 76 (f := .int "WRONG" 20) rfl), He.int_ok X G (c.t.d.fact 63 (f := .int "LATE" 60) rfl), He.int_ok X G (c.t.d.fact 66 (f := .int "MOST_JUDGES" 5) rfl), He.cls_ok (c.t.d.fact 44 (f := .cls "Hall") rfl), He.noat_ok (c.t.d.fact 77 (f := .noat "Hall" "contest") rfl), He.noat_ok (c.t.d.fact 79 (f := .noat "Hall" "offered") rfl), He.noat_ok (c.t.d.fact 80 (f := .noat "Hall" "table") rfl), He.noat_ok (c.t.d.fact 81 (f := .noat "Hall" "works") rfl), He.noat_ok (c.t.d.fact 78 (f := .noat "Hall" "events") rfl)⟩
  have e := hfa.symm.trans (He.glo_ok X G (c.t.d.fact 43 (f := .glo "law") rfl))
  cases e
  have b := FunD.bindsA (ps := P_law) F_law fun _ _ _ _ _ _ us hl => match us, hl with | [_], _ => rfl
  refine ⟨fd_law, tf.map (He.cT K), sp_law K, fun p hp => ?_, fun p hp => ?_, fun p hp => ?_, fun s v => b s [v] rfl, fun H a ns hl _ hT hS => ?_, fun base _ _ TB => ?_⟩
  · obtain ⟨d, hd, rfl⟩ := List.mem_map.mp hp
    exact c.empty d hd
  · obtain ⟨d, hd, rfl⟩ := List.mem_map.mp hp
    exact c.out d hd
  · obtain ⟨d, hd, rfl⟩ := List.mem_map.mp hp
    exact PySem.W.codeHd_of_K X (c.hd d hd)
  · exact ⟨a, ns, rfl, hS, hl, ⟨hT (He.cT K ("placed", none)) (List.mem_map.mpr ⟨_, List.mem_of_getElem? (i := 0) rfl, rfl⟩), hT (He.cT K ("placed", none)) (List.mem_map.mpr ⟨_, List.mem_of_getElem? (i := 0) rfl, rfl⟩)⟩, fun _ => rfl⟩
  have Q_frozen_untils : Fun K "frozen_untils" "frozen_untils" s_frozen_untils _ fd_frozen_untils := fun_of F_frozen_untils
  have b_frozen_untils : Binds K fd_frozen_untils P_frozen_untils [] := Q_frozen_untils.binds fun _ _ _ _ _ _ us hl => match us, hl with | [_], _ => rfl
  have g_frozen_untils := He.glo_ok X G (c.t.d.fact 0 (f := .glo "frozen_untils") rfl)
  have d_frozen_untils : Dk R.prog w K mg base 1 "frozen_untils" P_frozen_untils (sp_frozen_untils K) := ⟨_, fd_frozen_untils, ok_frozen_untils Q_frozen_untils T, b_frozen_untils, g_frozen_untils, F_frozen_untils.kp⟩
  have Q_numbers_of : Fun K "numbers_of" "numbers_of" s_numbers_of _ fd_numbers_of := fun_of F_numbers_of
  have b_numbers_of : Binds K fd_numbers_of P_numbers_of [] := Q_numbers_of.binds fun _ _ _ _ _ _ us hl => match us, hl with | [_, _, _, _, _], _ => rfl
  have g_numbers_of := He.glo_ok X G (c.t.d.fact 1 (f := .glo "numbers_of") rfl)
  have d_numbers_of : Dk R.prog w K mg base 1 "numbers_of" P_numbers_of (sp_numbers_of K) := ⟨_, fd_numbers_of, ok_numbers_of Q_numbers_of T, b_numbers_of, g_numbers_of, F_numbers_of.kp⟩
  have Q_state_of : Fun K "state_of" "state_of" s_state_of _ fd_state_of := fun_of F_state_of
  have b_state_of : Binds K fd_state_of P_state_of [] := Q_state_of.binds fun _ _ _ _ _ _ us hl => match us, hl with | [_], _ => rfl
  have g_state_of := He.glo_ok X G (c.t.d.fact 2 (f := .glo "state_of") rfl)
  have d_state_of : Dk R.prog w K mg base 1 "state_of" P_state_of (sp_state_of K) := ⟨_, fd_state_of, ok_state_of Q_state_of T, b_state_of, g_state_of, F_state_of.kp⟩
  have Q_group_states : Fun K "group_states" "group_states" s_group_states _ fd_group_states := fun_of F_group_states
  have b_group_states : Binds K fd_group_states P_group_states [] := Q_group_states.binds fun _ _ _ _ _ _ us hl => match us, hl with | [_, _, _, _], _ => rfl
  have g_group_states := He.glo_ok X G (c.t.d.fact 3 (f := .glo "group_states") rfl)
  have d_group_states : Dk R.prog w K mg base 2 "group_states" P_group_states (sp_group_states K) := ⟨_, fd_group_states, ok_group_states Q_group_states T d_state_of, b_group_states, g_group_states, F_group_states.kp⟩
  have Q_try_state : Fun K "try_state" "try_state" s_try_state _ fd_try_state := fun_of F_try_state
  have b_try_state : Binds K fd_try_state P_try_state [] := Q_try_state.binds fun _ _ _ _ _ _ us hl => match us, hl with | [_, _, _, _], _ => rfl
  have g_try_state := He.glo_ok X G (c.t.d.fact 4 (f := .glo "try_state") rfl)
  have d_try_state : Dk R.prog w K mg base 3 "try_state" P_try_state (sp_try_state K) := ⟨_, fd_try_state, ok_try_state Q_try_state T d_group_states, b_try_state, g_try_state, F_try_state.kp⟩
  have Q_solved_at : Fun K "solved_at" "solved_at" s_solved_at _ fd_solved_at := fun_of F_solved_at
  have b_solved_at : Binds K fd_solved_at P_solved_at [] := Q_solved_at.binds fun _ _ _ _ _ _ us hl => match us, hl with | [_, _, _, _], _ => rfl
  have g_solved_at := He.glo_ok X G (c.t.d.fact 5 (f := .glo "solved_at") rfl)
  have d_solved_at : Dk R.prog w K mg base 4 "solved_at" P_solved_at (sp_solved_at K) := ⟨_, fd_solved_at, ok_solved_at Q_solved_at T d_try_state, b_solved_at, g_solved_at, F_solved_at.kp⟩
  have Q_hidden_of : Fun K "hidden_of" "hidden_of" s_hidden_of _ fd_hidden_of := fun_of F_hidden_of
  have b_hidden_of : Binds K fd_hidden_of P_hidden_of [] := Q_hidden_of.binds fun _ _ _ _ _ _ us hl => match us, hl with | [_, _, _, _, _], _ => rfl
  have g_hidden_of := He.glo_ok X G (c.t.d.fact 6 (f := .glo "hidden_of") rfl)
  have d_hidden_of : Dk R.prog w K mg base 5 "hidden_of" P_hidden_of (sp_hidden_of K) := ⟨_, fd_hidden_of, ok_hidden_of Q_hidden_of T d_numbers_of d_solved_at, b_hidden_of, g_hidden_of, F_hidden_of.kp⟩
  have Q_rank_of : Fun K "rank_of" "rank_of" s_rank_of _ fd_rank_of := fun_of F_rank_of
  have b_rank_of : Binds K fd_rank_of P_rank_of [] := Q_rank_of.binds fun _ _ _ _ _ _ us hl => match us, hl with | [_], _ => rfl
  have g_rank_of := He.glo_ok X G (c.t.d.fact 7 (f := .glo "rank_of") rfl)
  have d_rank_of : Dk R.prog w K mg base 1 "rank_of" P_rank_of (sp_rank_of K) := ⟨_, fd_rank_of, ok_rank_of Q_rank_of T, b_rank_of, g_rank_of, F_rank_of.kp⟩
  have Q_placed : Fun K "placed" "placed" s_placed _ fd_placed := fun_of F_placed
  have b_placed : Binds K fd_placed P_placed [] := Q_placed.binds fun _ _ _ _ _ _ us hl => match us, hl with | [_], _ => rfl
  have g_placed := He.glo_ok X G (c.t.d.fact 8 (f := .glo "placed") rfl)
  have L_placed : FunL K "placed" "placed" s_placed _ fd_placed (He.cT K ("placed", none)).1 := funL_of (p := ("placed", none)) F_placed
  have d_placed : Dk R.prog w K mg base 2 "placed" P_placed (sp_placed K) := ⟨_, fd_placed, ok_placed L_placed (TB (He.cT K ("placed", none)) (List.mem_map.mpr ⟨_, List.mem_of_getElem? (i := 0) rfl, rfl⟩)) (hq_placed K) T d_rank_of, b_placed, g_placed, F_placed.kp⟩
  have Q_worth_of : Fun K "worth_of" "worth_of" s_worth_of _ fd_worth_of := fun_of F_worth_of
  have b_worth_of : Binds K fd_worth_of P_worth_of [] := Q_worth_of.binds fun _ _ _ _ _ _ us hl => match us, hl with | [_, _, _, _], _ => rfl
  have g_worth_of := He.glo_ok X G (c.t.d.fact 9 (f := .glo "worth_of") rfl)
  have d_worth_of : Dk R.prog w K mg base 1 "worth_of" P_worth_of (sp_worth_of K) := ⟨_, fd_worth_of, ok_worth_of Q_worth_of T, b_worth_of, g_worth_of, F_worth_of.kp⟩
  have Q_points_at : Fun K "points_at" "points_at" s_points_at _ fd_points_at := fun_of F_points_at
  have b_points_at : Binds K fd_points_at P_points_at [] := Q_points_at.binds fun _ _ _ _ _ _ us hl => match us, hl with | [_, _, _, _, _], _ => rfl
  have g_points_at := He.glo_ok X G (c.t.d.fact 10 (f := .glo "points_at") rfl)
  have d_points_at : Dk R.prog w K mg base 3 "points_at" P_points_at (sp_points_at K) := ⟨_, fd_points_at, ok_points_at Q_points_at T d_group_states d_worth_of, b_points_at, g_points_at, F_points_at.kp⟩
  have Q_score_of : Fun K "score_of" "score_of" s_score_of _ fd_score_of := fun_of F_score_of
  have b_score_of : Binds K fd_score_of P_score_of [] := Q_score_of.binds fun _ _ _ _ _ _ us hl => match us, hl with | [_, _, _, _, _], _ => rfl
  have g_score_of := He.glo_ok X G (c.t.d.fact 11 (f := .glo "score_of") rfl)
  have d_score_of : Dk R.prog w K mg base 5 "score_of" P_score_of (sp_score_of K) := ⟨_, fd_score_of, ok_score_of Q_score_of T d_numbers_of d_points_at d_solved_at, b_score_of, g_score_of, F_score_of.kp⟩
  have Q_rows_of : Fun K "rows_of" "rows_of" s_rows_of _ fd_rows_of := fun_of F_rows_of
  have b_rows_of : Binds K fd_rows_of P_rows_of [] := Q_rows_of.binds fun _ _ _ _ _ _ us hl => match us, hl with | [_, _, _, _], _ => rfl
  have g_rows_of := He.glo_ok X G (c.t.d.fact 12 (f := .glo "rows_of") rfl)
  have d_rows_of : Dk R.prog w K mg base 6 "rows_of" P_rows_of (sp_rows_of K) := ⟨_, fd_rows_of, ok_rows_of Q_rows_of T d_hidden_of d_placed d_score_of, b_rows_of, g_rows_of, F_rows_of.kp⟩
  have Q_Hall_board : Fun K "board" "Hall.board" s_Hall_board _ fd_Hall_board := fun_of F_Hall_board
  have b_Hall_board : Binds K fd_Hall_board P_Hall_board [] := Q_Hall_board.binds fun _ _ _ _ _ _ us hl => match us, hl with | [_], _ => rfl
  have d_Hall_board : Dm R.prog w K mg base 7 "Hall" "board" P_Hall_board (sp_Hall_board K) := ⟨_, fd_Hall_board, ok_Hall_board Q_Hall_board T d_frozen_untils d_rows_of, b_Hall_board, He.cls_ok (c.t.d.fact 44 (f := .cls "Hall") rfl), He.meth_ok (c.t.d.fact 45 (f := .meth "Hall" "board") rfl)⟩
  have Q_trials_of : Fun K "trials_of" "trials_of" s_trials_of _ fd_trials_of := fun_of F_trials_of
  have b_trials_of : Binds K fd_trials_of P_trials_of [] := Q_trials_of.binds fun _ _ _ _ _ _ us hl => match us, hl with | [_, _], _ => rfl
  have g_trials_of := He.glo_ok X G (c.t.d.fact 13 (f := .glo "trials_of") rfl)
  have d_trials_of : Dk R.prog w K mg base 1 "trials_of" P_trials_of (sp_trials_of K) := ⟨_, fd_trials_of, ok_trials_of Q_trials_of T, b_trials_of, g_trials_of, F_trials_of.kp⟩
  have Q_filled : Fun K "filled" "filled" s_filled _ fd_filled := fun_of F_filled
  have b_filled : Binds K fd_filled P_filled [] := Q_filled.binds fun _ _ _ _ _ _ us hl => match us, hl with | [_, _, _, _, _], _ => rfl
  have g_filled := He.glo_ok X G (c.t.d.fact 14 (f := .glo "filled") rfl)
  have d_filled : Dk R.prog w K mg base 2 "filled" P_filled (sp_filled K) := ⟨_, fd_filled, ok_filled Q_filled T d_trials_of, b_filled, g_filled, F_filled.kp⟩
  have Q_whole_untils : Fun K "whole_untils" "whole_untils" s_whole_untils _ fd_whole_untils := fun_of F_whole_untils
  have b_whole_untils : Binds K fd_whole_untils P_whole_untils [] := Q_whole_untils.binds fun _ _ _ _ _ _ us hl => match us, hl with | [_], _ => rfl
  have g_whole_untils := He.glo_ok X G (c.t.d.fact 15 (f := .glo "whole_untils") rfl)
  have d_whole_untils : Dk R.prog w K mg base 1 "whole_untils" P_whole_untils (sp_whole_untils K) := ⟨_, fd_whole_untils, ok_whole_untils Q_whole_untils T, b_whole_untils, g_whole_untils, F_whole_untils.kp⟩
  have Q_all_placed : Fun K "all_placed" "all_placed" s_all_placed _ fd_all_placed := fun_of F_all_placed
  have b_all_placed : Binds K fd_all_placed P_all_placed [] := Q_all_placed.binds fun _ _ _ _ _ _ us hl => match us, hl with | [_, _, _], _ => rfl
  have g_all_placed := He.glo_ok X G (c.t.d.fact 16 (f := .glo "all_placed") rfl)
  have d_all_placed : Dk R.prog w K mg base 6 "all_placed" P_all_placed (sp_all_placed K) := ⟨_, fd_all_placed, ok_all_placed Q_all_placed T d_placed d_score_of d_whole_untils, b_all_placed, g_all_placed, F_all_placed.kp⟩
  have Q_place_in : Fun K "place_in" "place_in" s_place_in _ fd_place_in := fun_of F_place_in
  have b_place_in : Binds K fd_place_in P_place_in [] := Q_place_in.binds fun _ _ _ _ _ _ us hl => match us, hl with | [_, _, _, _], _ => rfl
  have g_place_in := He.glo_ok X G (c.t.d.fact 17 (f := .glo "place_in") rfl)
  have d_place_in : Dk R.prog w K mg base 7 "place_in" P_place_in (sp_place_in K) := ⟨_, fd_place_in, ok_place_in Q_place_in T d_all_placed, b_place_in, g_place_in, F_place_in.kp⟩
  have Q_extremes : Fun K "extremes" "extremes" s_extremes _ fd_extremes := fun_of F_extremes
  have b_extremes : Binds K fd_extremes P_extremes [] := Q_extremes.binds fun _ _ _ _ _ _ us hl => match us, hl with | [_, _, _], _ => rfl
  have g_extremes := He.glo_ok X G (c.t.d.fact 18 (f := .glo "extremes") rfl)
  have d_extremes : Dk R.prog w K mg base 8 "extremes" P_extremes (sp_extremes K) := ⟨_, fd_extremes, ok_extremes Q_extremes T d_filled d_place_in, b_extremes, g_extremes, F_extremes.kp⟩
  have Q_Hall_could : Fun K "could" "Hall.could" s_Hall_could _ fd_Hall_could := fun_of F_Hall_could
  have b_Hall_could : Binds K fd_Hall_could P_Hall_could [] := Q_Hall_could.binds fun _ _ _ _ _ _ us hl => match us, hl with | [_], _ => rfl
  have d_Hall_could : Dm R.prog w K mg base 9 "Hall" "could" P_Hall_could (sp_Hall_could K) := ⟨_, fd_Hall_could, ok_Hall_could Q_Hall_could T d_extremes, b_Hall_could, He.cls_ok (c.t.d.fact 44 (f := .cls "Hall") rfl), He.meth_ok (c.t.d.fact 46 (f := .meth "Hall" "could") rfl)⟩
  have Q_Hall_standings : Fun K "standings" "Hall.standings" s_Hall_standings _ fd_Hall_standings := fun_of F_Hall_standings
  have b_Hall_standings : Binds K fd_Hall_standings P_Hall_standings [] := Q_Hall_standings.binds fun _ _ _ _ _ _ us hl => match us, hl with | [_], _ => rfl
  have d_Hall_standings : Dm R.prog w K mg base 7 "Hall" "standings" P_Hall_standings (sp_Hall_standings K) := ⟨_, fd_Hall_standings, ok_Hall_standings Q_Hall_standings T d_all_placed, b_Hall_standings, He.cls_ok (c.t.d.fact 44 (f := .cls "Hall") rfl), He.meth_ok (c.t.d.fact 47 (f := .meth "Hall" "standings") rfl)⟩
  have Q_Hall_tries : Fun K "tries" "Hall.tries" s_Hall_tries _ fd_Hall_tries := fun_of F_Hall_tries
  have b_Hall_tries : Binds K fd_Hall_tries P_Hall_tries [] := Q_Hall_tries.binds fun _ _ _ _ _ _ us hl => match us, hl with | [_], _ => rfl
  have d_Hall_tries : Dm R.prog w K mg base 1 "Hall" "tries" P_Hall_tries (sp_Hall_tries K) := ⟨_, fd_Hall_tries, ok_Hall_tries Q_Hall_tries T, b_Hall_tries, He.cls_ok (c.t.d.fact 44 (f := .cls "Hall") rfl), He.meth_ok (c.t.d.fact 48 (f := .meth "Hall" "tries") rfl)⟩
  have Q_Hall_verdicts : Fun K "verdicts" "Hall.verdicts" s_Hall_verdicts _ fd_Hall_verdicts := fun_of F_Hall_verdicts
  have b_Hall_verdicts : Binds K fd_Hall_verdicts P_Hall_verdicts [] := Q_Hall_verdicts.binds fun _ _ _ _ _ _ us hl => match us, hl with | [_], _ => rfl
  have d_Hall_verdicts : Dm R.prog w K mg base 1 "Hall" "verdicts" P_Hall_verdicts (sp_Hall_verdicts K) := ⟨_, fd_Hall_verdicts, ok_Hall_verdicts Q_Hall_verdicts T, b_Hall_verdicts, He.cls_ok (c.t.d.fact 44 (f := .cls "Hall") rfl), He.meth_ok (c.t.d.fact 49 (f := .meth "Hall" "verdicts") rfl)⟩
  have Q__law_off : Fun K "_law_off" "_law_off" s__law_off _ fd__law_off := fun_of F__law_off
  have b__law_off : Binds K fd__law_off P__law_off [] := Q__law_off.binds fun _ _ _ _ _ _ us hl => match us, hl with | [_, _], _ => rfl
  have g__law_off := He.glo_ok X G (c.t.d.fact 19 (f := .glo "_law_off") rfl)
  have d__law_off : Dk R.prog w K mg base 1 "_law_off" P__law_off (sp__law_off K) := ⟨_, fd__law_off, ok__law_off Q__law_off T, b__law_off, g__law_off, F__law_off.kp⟩
  have Q__law_contest : Fun K "_law_contest" "_law_contest" s__law_contest _ fd__law_contest := fun_of F__law_contest
  have b__law_contest : Binds K fd__law_contest P__law_contest [] := Q__law_contest.binds fun _ _ _ _ _ _ us hl => match us, hl with | [_, _], _ => rfl
  have g__law_contest := He.glo_ok X G (c.t.d.fact 20 (f := .glo "_law_contest") rfl)
  have d__law_contest : Dk R.prog w K mg base 2 "_law_contest" P__law_contest (sp__law_contest K) := ⟨_, fd__law_contest, ok__law_contest Q__law_contest T d__law_off, b__law_contest, g__law_contest, F__law_contest.kp⟩
  have Q__law_tries : Fun K "_law_tries" "_law_tries" s__law_tries _ fd__law_tries := fun_of F__law_tries
  have b__law_tries : Binds K fd__law_tries P__law_tries [] := Q__law_tries.binds fun _ _ _ _ _ _ us hl => match us, hl with | [_, _, _], _ => rfl
  have g__law_tries := He.glo_ok X G (c.t.d.fact 21 (f := .glo "_law_tries") rfl)
  have d__law_tries : Dk R.prog w K mg base 2 "_law_tries" P__law_tries (sp__law_tries K) := ⟨_, fd__law_tries, ok__law_tries Q__law_tries T d__law_off, b__law_tries, g__law_tries, F__law_tries.kp⟩
  have Q__law_size : Fun K "_law_size" "_law_size" s__law_size _ fd__law_size := fun_of F__law_size
  have b__law_size : Binds K fd__law_size P__law_size [] := Q__law_size.binds fun _ _ _ _ _ _ us hl => match us, hl with | [_, _], _ => rfl
  have g__law_size := He.glo_ok X G (c.t.d.fact 22 (f := .glo "_law_size") rfl)
  have d__law_size : Dk R.prog w K mg base 1 "_law_size" P__law_size (sp__law_size K) := ⟨_, fd__law_size, ok__law_size Q__law_size T, b__law_size, g__law_size, F__law_size.kp⟩
  have Q__law_truth : Fun K "_law_truth" "_law_truth" s__law_truth _ fd__law_truth := fun_of F__law_truth
  have b__law_truth : Binds K fd__law_truth P__law_truth [] := Q__law_truth.binds fun _ _ _ _ _ _ us hl => match us, hl with | [_, _, _], _ => rfl
  have g__law_truth := He.glo_ok X G (c.t.d.fact 23 (f := .glo "_law_truth") rfl)
  have d__law_truth : Dk R.prog w K mg base 2 "_law_truth" P__law_truth (sp__law_truth K) := ⟨_, fd__law_truth, ok__law_truth Q__law_truth T d__law_off d__law_size, b__law_truth, g__law_truth, F__law_truth.kp⟩
  have Q__law_case : Fun K "_law_case" "_law_case" s__law_case _ fd__law_case := fun_of F__law_case
  have b__law_case : Binds K fd__law_case P__law_case [] := Q__law_case.binds fun _ _ _ _ _ _ us hl => match us, hl with | [_, _, _], _ => rfl
  have g__law_case := He.glo_ok X G (c.t.d.fact 24 (f := .glo "_law_case") rfl)
  have d__law_case : Dk R.prog w K mg base 3 "_law_case" P__law_case (sp__law_case K) := ⟨_, fd__law_case, ok__law_case Q__law_case T d__law_contest d__law_tries d__law_truth, b__law_case, g__law_case, F__law_case.kp⟩
  have Q__law_dice : Fun K "_law_dice" "_law_dice" s__law_dice _ fd__law_dice := fun_of F__law_dice
  have b__law_dice : Binds K fd__law_dice P__law_dice [] := Q__law_dice.binds fun _ _ _ _ _ _ us hl => match us, hl with | [_, _], _ => rfl
  have g__law_dice := He.glo_ok X G (c.t.d.fact 25 (f := .glo "_law_dice") rfl)
  have d__law_dice : Dk R.prog w K mg base 1 "_law_dice" P__law_dice (sp__law_dice K) := ⟨_, fd__law_dice, ok__law_dice Q__law_dice T, b__law_dice, g__law_dice, F__law_dice.kp⟩
  have Q_is_between : Fun K "is_between" "is_between" s_is_between _ fd_is_between := fun_of F_is_between
  have b_is_between : Binds K fd_is_between P_is_between [] := Q_is_between.binds fun _ _ _ _ _ _ us hl => match us, hl with | [_, _, _], _ => rfl
  have g_is_between := He.glo_ok X G (c.t.d.fact 26 (f := .glo "is_between") rfl)
  have d_is_between : Dk R.prog w K mg base 1 "is_between" P_is_between (sp_is_between K) := ⟨_, fd_is_between, ok_is_between Q_is_between T, b_is_between, g_is_between, F_is_between.kp⟩
  have Q_is_group : Fun K "is_group" "is_group" s_is_group _ fd_is_group := fun_of F_is_group
  have b_is_group : Binds K fd_is_group P_is_group [] := Q_is_group.binds fun _ _ _ _ _ _ us hl => match us, hl with | [_], _ => rfl
  have g_is_group := He.glo_ok X G (c.t.d.fact 27 (f := .glo "is_group") rfl)
  have d_is_group : Dk R.prog w K mg base 2 "is_group" P_is_group (sp_is_group K) := ⟨_, fd_is_group, ok_is_group Q_is_group T d_is_between, b_is_group, g_is_group, F_is_group.kp⟩
  have Q_need_tasks : Fun K "need_tasks" "need_tasks" s_need_tasks _ fd_need_tasks := fun_of F_need_tasks
  have b_need_tasks : Binds K fd_need_tasks P_need_tasks [] := Q_need_tasks.binds fun _ _ _ _ _ _ us hl => match us, hl with | [_, _], _ => rfl
  have g_need_tasks := He.glo_ok X G (c.t.d.fact 28 (f := .glo "need_tasks") rfl)
  have d_need_tasks : Dk R.prog w K mg base 3 "need_tasks" P_need_tasks (sp_need_tasks K) := ⟨_, fd_need_tasks, ok_need_tasks Q_need_tasks T d_is_between d_is_group, b_need_tasks, g_need_tasks, F_need_tasks.kp⟩
  have Q_need_contest : Fun K "need_contest" "need_contest" s_need_contest _ fd_need_contest := fun_of F_need_contest
  have b_need_contest : Binds K fd_need_contest P_need_contest [] := Q_need_contest.binds fun _ _ _ _ _ _ us hl => match us, hl with | [_], _ => rfl
  have g_need_contest := He.glo_ok X G (c.t.d.fact 29 (f := .glo "need_contest") rfl)
  have d_need_contest : Dk R.prog w K mg base 4 "need_contest" P_need_contest (sp_need_contest K) := ⟨_, fd_need_contest, ok_need_contest Q_need_contest T d_is_between d_need_tasks, b_need_contest, g_need_contest, F_need_contest.kp⟩
  have Q_Hall_init : Fun K "__init__" "Hall.__init__" s_Hall_init _ fd_Hall_init := fun_of F_Hall_init
  have b_Hall_init : Binds K fd_Hall_init P_Hall_init [] := Q_Hall_init.binds fun _ _ _ _ _ _ us hl => match us, hl with | [_, _, _], _ => rfl
  have d_Hall : Dc R.prog w K mg base 5 "Hall" P_Hall_init (sp_Hall_init K) := ⟨_, fd_Hall_init, ok_Hall_init Q_Hall_init T d_is_between d_need_contest, b_Hall_init, He.mkr_ok (c.t.d.fact 59 (f := .mkr "Hall") rfl), He.glo_ok X G (c.t.d.fact 58 (f := .glo "Hall") rfl)⟩
  have Q_Hall_need_judge : Fun K "need_judge" "Hall.need_judge" s_Hall_need_judge _ fd_Hall_need_judge := fun_of F_Hall_need_judge
  have b_Hall_need_judge : Binds K fd_Hall_need_judge P_Hall_need_judge [] := Q_Hall_need_judge.binds fun _ _ _ _ _ _ us hl => match us, hl with | [_, _], _ => rfl
  have d_Hall_need_judge : Dm R.prog w K mg base 2 "Hall" "need_judge" P_Hall_need_judge (sp_Hall_need_judge K) := ⟨_, fd_Hall_need_judge, ok_Hall_need_judge Q_Hall_need_judge T d_is_between, b_Hall_need_judge, He.cls_ok (c.t.d.fact 44 (f := .cls "Hall") rfl), He.meth_ok (c.t.d.fact 50 (f := .meth "Hall" "need_judge") rfl)⟩
  have Q_Hall_fall : Fun K "fall" "Hall.fall" s_Hall_fall _ fd_Hall_fall := fun_of F_Hall_fall
  have b_Hall_fall : Binds K fd_Hall_fall P_Hall_fall [] := Q_Hall_fall.binds fun _ _ _ _ _ _ us hl => match us, hl with | [_, _], _ => rfl
  have d_Hall_fall : Dm R.prog w K mg base 3 "Hall" "fall" P_Hall_fall (sp_Hall_fall K) := ⟨_, fd_Hall_fall, ok_Hall_fall Q_Hall_fall T d_Hall_need_judge, b_Hall_fall, He.cls_ok (c.t.d.fact 44 (f := .cls "Hall") rfl), He.meth_ok (c.t.d.fact 51 (f := .meth "Hall" "fall") rfl)⟩
  have Q_Hall_had : Fun K "had" "Hall.had" s_Hall_had _ fd_Hall_had := fun_of F_Hall_had
  have b_Hall_had : Binds K fd_Hall_had P_Hall_had [] := Q_Hall_had.binds fun _ _ _ _ _ _ us hl => match us, hl with | [_], _ => rfl
  have d_Hall_had : Dm R.prog w K mg base 1 "Hall" "had" P_Hall_had (sp_Hall_had K) := ⟨_, fd_Hall_had, ok_Hall_had Q_Hall_had T, b_Hall_had, He.cls_ok (c.t.d.fact 44 (f := .cls "Hall") rfl), He.meth_ok (c.t.d.fact 52 (f := .meth "Hall" "had") rfl)⟩
  have Q_Hall_mend : Fun K "mend" "Hall.mend" s_Hall_mend _ fd_Hall_mend := fun_of F_Hall_mend
  have b_Hall_mend : Binds K fd_Hall_mend P_Hall_mend [] := Q_Hall_mend.binds fun _ _ _ _ _ _ us hl => match us, hl with | [_, _, _], _ => rfl
  have d_Hall_mend : Dm R.prog w K mg base 2 "Hall" "mend" P_Hall_mend (sp_Hall_mend K) := ⟨_, fd_Hall_mend, ok_Hall_mend Q_Hall_mend T d_is_between d_trials_of, b_Hall_mend, He.cls_ok (c.t.d.fact 44 (f := .cls "Hall") rfl), He.meth_ok (c.t.d.fact 53 (f := .meth "Hall" "mend") rfl)⟩
  have Q_Hall_offer : Fun K "offer" "Hall.offer" s_Hall_offer _ fd_Hall_offer := fun_of F_Hall_offer
  have b_Hall_offer : Binds K fd_Hall_offer P_Hall_offer [] := Q_Hall_offer.binds fun _ _ _ _ _ _ us hl => match us, hl with | [_, _, _, _], _ => rfl
  have d_Hall_offer : Dm R.prog w K mg base 2 "Hall" "offer" P_Hall_offer (sp_Hall_offer K) := ⟨_, fd_Hall_offer, ok_Hall_offer Q_Hall_offer T d_is_between, b_Hall_offer, He.cls_ok (c.t.d.fact 44 (f := .cls "Hall") rfl), He.meth_ok (c.t.d.fact 54 (f := .meth "Hall" "offer") rfl)⟩
  have Q_is_over : Fun K "is_over" "is_over" s_is_over _ fd_is_over := fun_of F_is_over
  have b_is_over : Binds K fd_is_over P_is_over [] := Q_is_over.binds fun _ _ _ _ _ _ us hl => match us, hl with | [_, _, _, _], _ => rfl
  have g_is_over := He.glo_ok X G (c.t.d.fact 30 (f := .glo "is_over") rfl)
  have d_is_over : Dk R.prog w K mg base 4 "is_over" P_is_over (sp_is_over K) := ⟨_, fd_is_over, ok_is_over Q_is_over T d_numbers_of d_try_state, b_is_over, g_is_over, F_is_over.kp⟩
  have Q_open_trials : Fun K "open_trials" "open_trials" s_open_trials _ fd_open_trials := fun_of F_open_trials
  have b_open_trials : Binds K fd_open_trials P_open_trials [] := Q_open_trials.binds fun _ _ _ _ _ _ us hl => match us, hl with | [_, _, _, _], _ => rfl
  have g_open_trials := He.glo_ok X G (c.t.d.fact 31 (f := .glo "open_trials") rfl)
  have d_open_trials : Dk R.prog w K mg base 5 "open_trials" P_open_trials (sp_open_trials K) := ⟨_, fd_open_trials, ok_open_trials Q_open_trials T d_group_states d_is_over, b_open_trials, g_open_trials, F_open_trials.kp⟩
  have Q_all_open : Fun K "all_open" "all_open" s_all_open _ fd_all_open := fun_of F_all_open
  have b_all_open : Binds K fd_all_open P_all_open [] := Q_all_open.binds fun _ _ _ _ _ _ us hl => match us, hl with | [_, _, _], _ => rfl
  have g_all_open := He.glo_ok X G (c.t.d.fact 32 (f := .glo "all_open") rfl)
  have d_all_open : Dk R.prog w K mg base 6 "all_open" P_all_open (sp_all_open K) := ⟨_, fd_all_open, ok_all_open Q_all_open T d_open_trials, b_all_open, g_all_open, F_all_open.kp⟩
  have Q_Hall_free : Fun K "free" "Hall.free" s_Hall_free _ fd_Hall_free := fun_of F_Hall_free
  have b_Hall_free : Binds K fd_Hall_free P_Hall_free [] := Q_Hall_free.binds fun _ _ _ _ _ _ us hl => match us, hl with | [_], _ => rfl
  have d_Hall_free : Dm R.prog w K mg base 7 "Hall" "free" P_Hall_free (sp_Hall_free K) := ⟨_, fd_Hall_free, ok_Hall_free Q_Hall_free T d_all_open, b_Hall_free, He.cls_ok (c.t.d.fact 44 (f := .cls "Hall") rfl), He.meth_ok (c.t.d.fact 55 (f := .meth "Hall" "free") rfl)⟩
  have Q_Hall_take : Fun K "take" "Hall.take" s_Hall_take _ fd_Hall_take := fun_of F_Hall_take
  have b_Hall_take : Binds K fd_Hall_take P_Hall_take [] := Q_Hall_take.binds fun _ _ _ _ _ _ us hl => match us, hl with | [_, _], _ => rfl
  have d_Hall_take : Dm R.prog w K mg base 8 "Hall" "take" P_Hall_take (sp_Hall_take K) := ⟨_, fd_Hall_take, ok_Hall_take Q_Hall_take T d_Hall_free d_Hall_need_judge, b_Hall_take, He.cls_ok (c.t.d.fact 44 (f := .cls "Hall") rfl), He.meth_ok (c.t.d.fact 56 (f := .meth "Hall" "take") rfl)⟩
  have Q_Hall_tell : Fun K "tell" "Hall.tell" s_Hall_tell _ fd_Hall_tell := fun_of F_Hall_tell
  have b_Hall_tell : Binds K fd_Hall_tell P_Hall_tell [] := Q_Hall_tell.binds fun _ _ _ _ _ _ us hl => match us, hl with | [_, _, _], _ => rfl
  have d_Hall_tell : Dm R.prog w K mg base 3 "Hall" "tell" P_Hall_tell (sp_Hall_tell K) := ⟨_, fd_Hall_tell, ok_Hall_tell Q_Hall_tell T d_Hall_need_judge, b_Hall_tell, He.cls_ok (c.t.d.fact 44 (f := .cls "Hall") rfl), He.meth_ok (c.t.d.fact 57 (f := .meth "Hall" "tell") rfl)⟩
  have Q__law_goes : Fun K "_law_goes" "_law_goes" s__law_goes _ fd__law_goes := fun_of F__law_goes
  have b__law_goes : Binds K fd__law_goes P__law_goes [] := Q__law_goes.binds fun _ _ _ _ _ _ us hl => match us, hl with | [_, _, _, _, _], _ => rfl
  have g__law_goes := He.glo_ok X G (c.t.d.fact 33 (f := .glo "_law_goes") rfl)
  have d__law_goes : Dk R.prog w K mg base 9 "_law_goes" P__law_goes (sp__law_goes K) := ⟨_, fd__law_goes, ok__law_goes Q__law_goes T d_Hall d_Hall_fall d_Hall_had d_Hall_mend d_Hall_offer d_Hall_take d_Hall_tell d__law_off d__law_size, b__law_goes, g__law_goes, F__law_goes.kp⟩
  have Q_is_try : Fun K "is_try" "is_try" s_is_try _ fd_is_try := fun_of F_is_try
  have b_is_try : Binds K fd_is_try P_is_try [] := Q_is_try.binds fun _ _ _ _ _ _ us hl => match us, hl with | [_, _], _ => rfl
  have g_is_try := He.glo_ok X G (c.t.d.fact 34 (f := .glo "is_try") rfl)
  have d_is_try : Dk R.prog w K mg base 2 "is_try" P_is_try (sp_is_try K) := ⟨_, fd_is_try, ok_is_try Q_is_try T d_is_between, b_is_try, g_is_try, F_is_try.kp⟩
  have Q_need_tries : Fun K "need_tries" "need_tries" s_need_tries _ fd_need_tries := fun_of F_need_tries
  have b_need_tries : Binds K fd_need_tries P_need_tries [] := Q_need_tries.binds fun _ _ _ _ _ _ us hl => match us, hl with | [_, _], _ => rfl
  have g_need_tries := He.glo_ok X G (c.t.d.fact 35 (f := .glo "need_tries") rfl)
  have d_need_tries : Dk R.prog w K mg base 3 "need_tries" P_need_tries (sp_need_tries K) := ⟨_, fd_need_tries, ok_need_tries Q_need_tries T d_is_try, b_need_tries, g_need_tries, F_need_tries.kp⟩
  have Q_is_verdict : Fun K "is_verdict" "is_verdict" s_is_verdict _ fd_is_verdict := fun_of F_is_verdict
  have b_is_verdict : Binds K fd_is_verdict P_is_verdict [] := Q_is_verdict.binds fun _ _ _ _ _ _ us hl => match us, hl with | [_, _, _], _ => rfl
  have g_is_verdict := He.glo_ok X G (c.t.d.fact 36 (f := .glo "is_verdict") rfl)
  have d_is_verdict : Dk R.prog w K mg base 2 "is_verdict" P_is_verdict (sp_is_verdict K) := ⟨_, fd_is_verdict, ok_is_verdict Q_is_verdict T d_is_between d_trials_of, b_is_verdict, g_is_verdict, F_is_verdict.kp⟩
  have Q_need_verdicts : Fun K "need_verdicts" "need_verdicts" s_need_verdicts _ fd_need_verdicts := fun_of F_need_verdicts
  have b_need_verdicts : Binds K fd_need_verdicts P_need_verdicts [] := Q_need_verdicts.binds fun _ _ _ _ _ _ us hl => match us, hl with | [_, _, _], _ => rfl
  have g_need_verdicts := He.glo_ok X G (c.t.d.fact 37 (f := .glo "need_verdicts") rfl)
  have d_need_verdicts : Dk R.prog w K mg base 3 "need_verdicts" P_need_verdicts (sp_need_verdicts K) := ⟨_, fd_need_verdicts, ok_need_verdicts Q_need_verdicts T d_is_verdict, b_need_verdicts, g_need_verdicts, F_need_verdicts.kp⟩
  have Q_need_all : Fun K "need_all" "need_all" s_need_all _ fd_need_all := fun_of F_need_all
  have b_need_all : Binds K fd_need_all P_need_all [] := Q_need_all.binds fun _ _ _ _ _ _ us hl => match us, hl with | [_, _, _], _ => rfl
  have g_need_all := He.glo_ok X G (c.t.d.fact 38 (f := .glo "need_all") rfl)
  have d_need_all : Dk R.prog w K mg base 5 "need_all" P_need_all (sp_need_all K) := ⟨_, fd_need_all, ok_need_all Q_need_all T d_need_contest d_need_tries d_need_verdicts, b_need_all, g_need_all, F_need_all.kp⟩
  have Q_table_of : Fun K "table_of" "table_of" s_table_of _ fd_table_of := fun_of F_table_of
  have b_table_of : Binds K fd_table_of P_table_of [] := Q_table_of.binds fun _ _ _ _ _ _ us hl => match us, hl with | [_], _ => rfl
  have g_table_of := He.glo_ok X G (c.t.d.fact 39 (f := .glo "table_of") rfl)
  have d_table_of : Dk R.prog w K mg base 1 "table_of" P_table_of (sp_table_of K) := ⟨_, fd_table_of, ok_table_of Q_table_of T, b_table_of, g_table_of, F_table_of.kp⟩
  have Q_board : Fun K "board" "board" s_board _ fd_board := fun_of F_board
  have b_board : Binds K fd_board P_board [] := Q_board.binds fun _ _ _ _ _ _ us hl => match us, hl with | [_, _, _], _ => rfl
  have g_board := He.glo_ok X G (c.t.d.fact 40 (f := .glo "board") rfl)
  have d_board : Dk R.prog w K mg base 7 "board" P_board (sp_board K) := ⟨_, fd_board, ok_board Q_board T d_frozen_untils d_need_all d_rows_of d_table_of, b_board, g_board, F_board.kp⟩
  have Q_could : Fun K "could" "could" s_could _ fd_could := fun_of F_could
  have b_could : Binds K fd_could P_could [] := Q_could.binds fun _ _ _ _ _ _ us hl => match us, hl with | [_, _, _], _ => rfl
  have g_could := He.glo_ok X G (c.t.d.fact 41 (f := .glo "could") rfl)
  have d_could : Dk R.prog w K mg base 9 "could" P_could (sp_could K) := ⟨_, fd_could, ok_could Q_could T d_extremes d_need_all d_table_of, b_could, g_could, F_could.kp⟩
  have Q_standings : Fun K "standings" "standings" s_standings _ fd_standings := fun_of F_standings
  have b_standings : Binds K fd_standings P_standings [] := Q_standings.binds fun _ _ _ _ _ _ us hl => match us, hl with | [_, _, _], _ => rfl
  have g_standings := He.glo_ok X G (c.t.d.fact 42 (f := .glo "standings") rfl)
  have d_standings : Dk R.prog w K mg base 7 "standings" P_standings (sp_standings K) := ⟨_, fd_standings, ok_standings Q_standings T d_all_placed d_need_all d_table_of, b_standings, g_standings, F_standings.kp⟩
  have Q_law : Fun K "law" "law" s_law _ fd_law := fun_of F_law
  exact ok_law Q_law T d_Hall_board d_Hall_could d_Hall_standings d_Hall_tries d_Hall_verdicts d__law_case d__law_dice d__law_goes d__law_off d_board d_could d_standings
end J
open PySem PySem.W PySem.Calls PyProof.Rows in
set_option maxRecDepth 100000 in
set_option maxHeartbeats 0 in
theorem PySem.Challenge.cw_judgehall_k08_whole_whoever_judges_when_holds : PySem.Challenge.rw_judgehall_k08_whole_whoever_judges_when.Holds := by
  w_on; o_law
  refine HandSHeadRun.head_any (r := OpenLaw.row PySem.Challenge.rw_judgehall_k08_whole_whoever_judges_when) (q := view (OpenLaw.row PySem.Challenge.rw_judgehall_k08_whole_whoever_judges_when).prog [83]) (H := J.hk) (ob := J.ob) (M := 60000) (loose := J.loose) (d := HandSHeadRun.topDef (OpenLaw.row PySem.Challenge.rw_judgehall_k08_whole_whoever_judges_when).prog 83) (kwd := []) J.ob_eq
    (by kernel_rfl) (fun s => by kernel_rfl) J.run (by kernel_rfl) (by kernel_rfl) (by kernel_rfl) (by rfl) (by first | assumption | decide +kernel) (by decide +kernel) ⟨rfl, rfl, rfl, rfl, rfl, by decide +kernel⟩ ?hw ?hc
  case hw => w_witness2
  case hc =>
    refine LamX.walk_ofTsE (l := PySem.Challenge.rw_judgehall_k08_whole_whoever_judges_when) (n := 63) (k := 10) (x := "_law_script") (CX := fun _ => L2.CX0) rfl (by decide) (by kernel_rfl) ⟨rfl, by decide, by decide⟩ ?F (fun _ _ _ _ _ z => z)
    intro w mg fa h Y G hmg0
    obtain ⟨K, KX, c⟩ := Y
    have hmg : mg ("law" : PySem.Str) = some (.ref fa) := by
      have e : (HandSHeadRun.topDef (OpenLaw.row PySem.Challenge.rw_judgehall_k08_whole_whoever_judges_when).prog 83).name = ("law" : PySem.Str) := by kernel_rfl
      rw [← e]
      exact hmg0
    exact ⟨K, KX, J.facts KX G hmg c⟩
