import PyProof.Rows.All
import Wide.All
import OpenK.AllK
import Wide.FinOn
import HandS.ForMost
import HandS.Evl
import HandS.Walk
import HandS.IsInst
import HandS.Lambda
import KE.GoesMore
import KE.GoesEnum
import KE.KDictPairs
import KE.KDictKeyed
import KE.KDictSum
import HandS.Conv
import HandS.SortInts
import HandS.DictTup
import HandS.TupAny
import PyProof.SliceSyntax
import PyProof.DictStraight
import KE.SortKeyHeap
import KE.SortData
import HandS.SortKw
import HandS.Style
import KE.KStateDown
import HandS.Base
import HandS.Call
import HandS.Ends
import HandS.More
import HandS.Words
import HandS.Defaults
import HandS.Head0
import HandS.Head1
import HandS.Head2
import HandS.HeadEnd
import HandS.HeadHook1
import HandS.HeadHook2
import HandS.HeadHook3
import HandS.HeadHook4
import HandS.EndTab
import HandS.HeadWalk
import HandS.Iter
import HandS.SortRule
import KE.KTupSum
import HandS.Deep
import HandS.Text
import PySem.Challenge.RW_judgehall_k17_written_and_read
set_option Elab.async false
set_option linter.all false
set_option maxRecDepth 100000
set_option maxHeartbeats 4000000
/-! The base: data as trees (D), how a heap bears them (Rp), what an expression comes to (EvD ..). -/
namespace J
open PySem L2 Evl

/-! ### heaps that grow. Tables of code objects (a lambda's maker has one) may be written; what they tell stays good. -/
/-- the name of the code objects that a table tells -/
class Tbs where
  q : Addr → Str
  /-- the tables of placed, of _law_placed -/
  p1 : Addr
  p2 : Addr
def isTbl : HO → Bool
  | .tbl _ => true
  | _ => false
def isCode : HO → Bool
  | .tbl _ => true
  | .ext _ => true
  | _ => false
theorem isTbl_code {o : HO} (h : isCode o = false) : isTbl o = false := by cases o <;> first | rfl | cases h
section
variable [Tbs] {A B C : Hp}
def Good (H : Hp) (q : Str) (cv : Value) : Prop := ∃ c, cv = .ref c ∧ H c = some (LamX.CodeO c q)
/-- a table that grew: what it tells was told, or is good -/
def Grew (B : Hp) (q : Str) (ps ps' : Array Value) : Prop := TriplesOk ps.toList → TriplesOk ps'.toList ∧ ∀ (pos : Pos) (cv : Value), codeAmong pos ps'.toList = some cv → (∃ pos', codeAmong pos' ps.toList = some cv) ∨ Good B q cv
structure Ex (A B : Hp) : Prop where
  k : ∀ b o, A b = some o → isTbl o = false → B b = some o
  t : ∀ b ps, A b = some (.tbl ps) → ∃ ps', B b = some (.tbl ps') ∧ Grew B (Tbs.q b) ps ps'
def Kx (A B : Hp) : Prop := ∀ b o, A b = some o → isTbl o = false → B b = some o
class NoT (o : HO) : Prop where
  h : isTbl o = false
instance {xs : List V} : NoT (.lst xs) := ⟨rfl⟩
instance {xs : List V} : NoT (.tup xs) := ⟨rfl⟩
instance {xs : List (Key × V)} : NoT (.dK xs) := ⟨rfl⟩
instance {xs : List (List Key × V)} : NoT (.dT xs) := ⟨rfl⟩
instance {C d : Addr} {fs : List (Str × V)} : NoT (.ins C d fs) := ⟨rfl⟩
instance {C : Addr} : NoT (.own C) := ⟨rfl⟩
instance {fs : List (Str × V)} : NoT (.xd fs) := ⟨rfl⟩
instance {o : Obj} {u : HO} : NoT (.frz o u) := ⟨rfl⟩
instance {φ : Heap → Prop} : NoT (.ext φ) := ⟨rfl⟩
instance : CoeFun (Ex A B) (fun _ => (b : Addr) → (o : HO) → A b = some o → [NoT o] → B b = some o) := ⟨fun e b o h [t : NoT o] => e.k b o h t.h⟩
theorem Grew.refl {q : Str} {ps : Array Value} : Grew A q ps ps := fun h => ⟨h, fun pos cv e => .inl ⟨pos, e⟩⟩
theorem Good.of {q : Str} {cv : Value} (k : ∀ b o, A b = some o → isTbl o = false → B b = some o) : Good A q cv → Good B q cv := fun ⟨c, e, h⟩ => ⟨c, e, k _ _ h rfl⟩
theorem Grew.trans {q : Str} {p1 p2 p3 : Array Value} (k : ∀ b o, B b = some o → isTbl o = false → C b = some o) (a : Grew B q p1 p2) (b : Grew C q p2 p3) : Grew C q p1 p3 := fun h => by
  obtain ⟨h2, f2⟩ := a h
  obtain ⟨h3, f3⟩ := b h2
  refine ⟨h3, fun pos cv e => ?_⟩
  rcases f3 pos cv e with ⟨pos', e'⟩ | g
  · rcases f2 pos' cv e' with z | g
    · exact .inl z
    · exact .inr (g.of k)
  · exact .inr g
theorem Grew.to {q : Str} {p1 p2 : Array Value} (k : ∀ b o, B b = some o → isTbl o = false → C b = some o) (a : Grew B q p1 p2) : Grew C q p1 p2 := Grew.trans k a .refl
theorem Ex.refl (H : Hp) : Ex H H := ⟨fun _ _ h _ => h, fun _ ps h => ⟨ps, h, .refl⟩⟩
theorem Ex.trans (a : Ex A B) (b : Ex B C) : Ex A C := ⟨fun x o h t => b.k x o (a.k x o h t) t, fun x ps h => by
  obtain ⟨p2, h2, g2⟩ := a.t x ps h
  obtain ⟨p3, h3, g3⟩ := b.t x p2 h2
  exact ⟨p3, h3, g2.trans b.k g3⟩⟩
theorem Ex.of (k : ∀ b o, A b = some o → B b = some o) : Ex A B := ⟨fun b o h _ => k b o h, fun b ps h => ⟨ps, k b _ h, .refl⟩⟩
theorem Ex.new {p : Addr} {o : HO} (h : A p = none) : Ex A (upd A p o) := .of fun b u hb => by
  rw [upd_ne (ne_of_none hb h)]
  exact hb
theorem fresh_back {p : Addr} (e : Ex A B) (h : B p = none) : A p = none := by
  cases z : A p with
  | none => rfl
  | some o =>
    cases o with
    | tbl ps =>
      obtain ⟨ps', h', _⟩ := e.t p ps z
      rw [h] at h'
      cases h'
    | _ =>
      have h' := e.k p _ z rfl
      rw [h] at h'
      cases h'
/-- what is no code object is written -/
theorem Ex.mut {p : Addr} {o : HO} (e : Ex A B) (h : A p = none) (c : ∀ u, B p = some u → isCode u = false) : Ex A (upd B p o) := by
  refine ⟨fun b u hb t => ?_, fun b ps hb => ?_⟩
  · rw [upd_ne (ne_of_none hb h)]
    exact e.k b u hb t
  · obtain ⟨ps', h', g⟩ := e.t b ps hb
    refine ⟨ps', by rw [upd_ne (ne_of_none hb h)]; exact h', fun ht => ?_⟩
    obtain ⟨h2, h3⟩ := g ht
    refine ⟨h2, fun pos cv hc => (h3 pos cv hc).elim .inl fun ⟨c', e1, e2⟩ => .inr ⟨c', e1, ?_⟩⟩
    have n : c' ≠ p := fun z => by
      subst z
      have := c _ e2
      cases this
    rw [upd_ne n]
    exact e2
/-- a table that tells nothing yet tells but good things -/
theorem Ex.tab (e : Ex A B) {P : Addr} (h : A P = some (.tbl #[])) : LamX.TabS B P (Tbs.q P) := by
  obtain ⟨ps, h1, g⟩ := e.t P _ h
  obtain ⟨h2, h3⟩ := g trivial
  refine ⟨ps, h1, h2, fun pos cv hc => ?_⟩
  rcases h3 pos cv hc with ⟨pos', z⟩ | ⟨c, z1, z2⟩
  · have z : codeAmong pos' [] = some cv := z
    simp [codeAmong] at z
  · exact ⟨c, z1, z2⟩
theorem ex_rd {a : Addr} {u : HO} (e : Ex A B) (h : Rd A a u) (t : isTbl u = false := by rfl) : Rd B a u := by
  rcases h with h | ⟨o, h⟩
  · exact .inl (e.k _ _ h t)
  · exact .inr ⟨o, e.k _ _ h rfl⟩
theorem ex_l {K : PySem.W.Frag} {a : Addr} {xs : List V} (e : Ex A B) (h : SqL K A a xs) : SqL K B a xs := h.elim (fun z => .inl (ex_rd e z)) .inr
theorem ex_t {K : PySem.W.Frag} {a : Addr} {xs : List V} (e : Ex A B) (h : SqT K A a xs) : SqT K B a xs := h.elim (fun z => .inl (ex_rd e z)) .inr
end

/-! ### data -/
inductive D where
  | non
  | bl (b : Bool)
  | int (i : Int)
  | str (s : Str)
  | tup (ds : List D)
  | lst (ds : List D)
  | tab (kvs : List (List Key × V))
  | dic (kvs : List (Key × V))

mutual
inductive Rp (K : PySem.W.Frag) (H : Hp) : V → D → Prop
  | non : Rp K H .non .non
  | bl (b : Bool) : Rp K H (.bl b) (.bl b)
  | int (i : Int) : Rp K H (.int i) (.int i)
  | str (x : Str) : Rp K H (.str x) (.str x)
  | tup {a : Addr} {xs : List V} {ds : List D} : H a = some (.tup xs) → RpA K H xs ds → Rp K H (.ref a) (.tup ds)
  | lst {a : Addr} {xs : List V} {ds : List D} : H a = some (.lst xs) → RpA K H xs ds → Rp K H (.ref a) (.lst ds)
  | tab {a : Addr} {kvs : List (List Key × V)} : H a = some (.dT kvs) → Rp K H (.ref a) (.tab kvs)
  | dic {a : Addr} {kvs : List (Key × V)} : H a = some (.dK kvs) → Rp K H (.ref a) (.dic kvs)
inductive RpA (K : PySem.W.Frag) (H : Hp) : List V → List D → Prop
  | nil : RpA K H [] []
  | cons {v : V} {vs : List V} {d : D} {ds : List D} : Rp K H v d → RpA K H vs ds → RpA K H (v :: vs) (d :: ds)
end

section
variable [Tbs] {K : PySem.W.Frag} {H H' G G' : Hp}
mutual
theorem Rp.exk (e : Kx H H') : ∀ {d : D} {v : V}, Rp K H v d → Rp K H' v d
  | .non, _, h => by cases h; exact .non
  | .bl _, _, h => by cases h; exact .bl _
  | .int _, _, h => by cases h; exact .int _
  | .str _, _, h => by cases h; exact .str _
  | .tup _, _, h => by
    cases h with
    | tup hs ha => exact .tup (e _ _ hs rfl) (RpA.exk e ha)
  | .lst _, _, h => by
    cases h with
    | lst hs ha => exact .lst (e _ _ hs rfl) (RpA.exk e ha)
  | .tab _, _, h => by
    cases h with
    | tab hs => exact .tab (e _ _ hs rfl)
  | .dic _, _, h => by
    cases h with
    | dic hs => exact .dic (e _ _ hs rfl)
theorem RpA.exk (e : Kx H H') : ∀ {ds : List D} {vs : List V}, RpA K H vs ds → RpA K H' vs ds
  | [], _, h => by cases h; exact .nil
  | _ :: _, _, h => by
    cases h with
    | cons h1 h2 => exact .cons (Rp.exk e h1) (RpA.exk e h2)
end
theorem Rp.ex (e : Ex H H') {d : D} {v : V} (r : Rp K H v d) : Rp K H' v d := r.exk e.k
theorem RpA.ex (e : Ex H H') {ds : List D} {vs : List V} (r : RpA K H vs ds) : RpA K H' vs ds := r.exk e.k
theorem Rp.int_of {v : V} {i : Int} (h : Rp K H v (.int i)) : v = .int i := by cases h; rfl
theorem Rp.bl_of {v : V} {i : Bool} (h : Rp K H v (.bl i)) : v = .bl i := by cases h; rfl
theorem Rp.str_of {v : V} {i : Str} (h : Rp K H v (.str i)) : v = .str i := by cases h; rfl
theorem Rp.non_of {v : V} (h : Rp K H v .non) : v = .non := by cases h; rfl
theorem Rp.tup_of {v : V} {ds : List D} (h : Rp K H v (.tup ds)) : ∃ a xs, v = .ref a ∧ H a = some (.tup xs) ∧ RpA K H xs ds := by
  cases h with
  | tup hs ha => exact ⟨_, _, rfl, hs, ha⟩
theorem Rp.lst_of {v : V} {ds : List D} (h : Rp K H v (.lst ds)) : ∃ a xs, v = .ref a ∧ H a = some (.lst xs) ∧ RpA K H xs ds := by
  cases h with
  | lst hs ha => exact ⟨_, _, rfl, hs, ha⟩
theorem Rp.tab_of {v : V} {kvs : List (List Key × V)} (h : Rp K H v (.tab kvs)) : ∃ a, v = .ref a ∧ H a = some (.dT kvs) := by
  cases h with
  | tab hs => exact ⟨_, rfl, hs⟩
theorem Rp.dic_of {v : V} {kvs : List (Key × V)} (h : Rp K H v (.dic kvs)) : ∃ a, v = .ref a ∧ H a = some (.dK kvs) := by
  cases h with
  | dic hs => exact ⟨_, rfl, hs⟩
theorem RpA.len : ∀ {ds : List D} {vs : List V}, RpA K H vs ds → vs.length = ds.length
  | [], _, h => by cases h; rfl
  | _ :: _, _, h => by
    cases h with
    | cons h1 h2 => rw [List.length_cons, List.length_cons, RpA.len h2]
theorem RpA.get : ∀ {ds : List D} {vs : List V} {i : Nat} {v : V}, RpA K H vs ds → vs[i]? = some v → ∃ d, ds[i]? = some d ∧ Rp K H v d
  | [], _, i, v, h, e => by cases h; simp at e
  | d :: ds, _, 0, v, h, e => by
    cases h with
    | cons h1 h2 =>
      have q := Option.some.inj e
      subst q
      exact ⟨d, rfl, h1⟩
  | d :: ds, _, i + 1, v, h, e => by
    cases h with
    | cons h1 h2 => exact RpA.get (i := i) h2 e
theorem RpA.at {ds : List D} {vs : List V} {i : Nat} {d : D} (h : RpA K H vs ds) (e : ds[i]? = some d) : ∃ v, vs[i]? = some v ∧ Rp K H v d := by
  have hl : i < ds.length := (List.getElem?_eq_some_iff.mp e).1
  have hv : i < vs.length := by rw [h.len]; exact hl
  obtain ⟨d', e', r⟩ := h.get (List.getElem?_eq_getElem hv)
  rw [e] at e'
  cases Option.some.inj e'
  exact ⟨_, List.getElem?_eq_getElem hv, r⟩
theorem RpA.snoc : ∀ {ds : List D} {vs : List V} {v : V} {d : D}, RpA K H vs ds → Rp K H v d → RpA K H (vs ++ [v]) (ds ++ [d])
  | [], _, _, _, h, r => by cases h; exact .cons r .nil
  | _ :: _, _, _, _, h, r => by
    cases h with
    | cons h1 h2 => exact .cons h1 (RpA.snoc h2 r)
theorem RpA.app : ∀ {ds : List D} {vs ws : List V} {es : List D}, RpA K H vs ds → RpA K H ws es → RpA K H (vs ++ ws) (ds ++ es)
  | [], _, _, _, h, r => by cases h; exact r
  | _ :: _, _, _, _, h, r => by
    cases h with
    | cons h1 h2 => exact .cons h1 (RpA.app h2 r)
theorem RpA.take : ∀ {ds : List D} {vs : List V} (n : Nat), RpA K H vs ds → RpA K H (vs.take n) (ds.take n)
  | _, _, 0, _ => .nil
  | [], _, n + 1, h => by cases h; exact .nil
  | _ :: _, _, n + 1, h => by
    cases h with
    | cons h1 h2 => exact .cons h1 (RpA.take n h2)
theorem RpA.drop : ∀ {ds : List D} {vs : List V} (n : Nat), RpA K H vs ds → RpA K H (vs.drop n) (ds.drop n)
  | _, _, 0, h => h
  | [], _, n + 1, h => by cases h; exact .nil
  | _ :: _, _, n + 1, h => by
    cases h with
    | cons h1 h2 => exact RpA.drop n h2
theorem RpA.erase : ∀ {ds : List D} {vs : List V} (n : Nat), RpA K H vs ds → RpA K H (vs.eraseIdx n) (ds.eraseIdx n)
  | [], _, n, h => by cases h; exact .nil
  | _ :: _, _, 0, h => by
    cases h with
    | cons h1 h2 => exact h2
  | _ :: _, _, n + 1, h => by
    cases h with
    | cons h1 h2 => exact .cons h1 (RpA.erase n h2)
theorem RpA.ints : ∀ {ns : List Int} {vs : List V}, RpA K H vs (ns.map D.int) → vs = ns.map V.int
  | [], _, h => by cases h; rfl
  | n :: ns, _, h => by
    cases h with
    | cons h1 h2 =>
      cases h1
      rw [RpA.ints h2]
      rfl
theorem RpA.of_ints : ∀ {ns : List Int}, RpA K H (ns.map V.int) (ns.map D.int)
  | [] => .nil
  | _ :: _ => .cons (.int _) RpA.of_ints

/-! ### data without tables, as PyData -/
mutual
def D.py : D → PyData
  | .non => .none
  | .bl b => .bool b
  | .int i => .int i
  | .str s => .str s
  | .tup ds => .tuple (D.pyA ds)
  | .lst ds => .list (D.pyA ds)
  | .tab _ => .none
  | .dic _ => .none
def D.pyA : List D → List PyData
  | [] => []
  | d :: ds => d.py :: D.pyA ds
end
mutual
def D.plain : D → Bool
  | .tup ds => D.plainA ds
  | .lst ds => D.plainA ds
  | .tab _ => false
  | .dic _ => false
  | _ => true
def D.plainA : List D → Bool
  | [] => true
  | d :: ds => d.plain && D.plainA ds
end
mutual
theorem Rp.dp : ∀ {d : D} {v : V}, Rp K H v d → d.plain = true → Dp K H v d.py
  | .non, _, h, _ => by cases h; exact .non
  | .bl _, _, h, _ => by cases h; exact .bl _
  | .int _, _, h, _ => by cases h; exact .int _
  | .str _, _, h, _ => by cases h; exact .str _
  | .tup _, _, h, p => by
    cases h with
    | tup hs ha => exact .tup (.of hs) (RpA.dp ha p)
  | .lst _, _, h, p => by
    cases h with
    | lst hs ha => exact .lst (.of hs) (RpA.dp ha p)
  | .tab _, _, h, p => by cases p
  | .dic _, _, h, p => by cases p
theorem RpA.dp : ∀ {ds : List D} {vs : List V}, RpA K H vs ds → D.plainA ds = true → DpAll K H vs (D.pyA ds)
  | [], _, h, _ => by cases h; exact .nil
  | d :: ds, _, h, p => by
    cases h with
    | cons h1 h2 =>
      have q : (d.plain && D.plainA ds) = true := p
      rw [Bool.and_eq_true] at q
      exact .cons (Rp.dp h1 q.1) (RpA.dp h2 q.2)
end
end

/-! ### a step: G the part that never changes any more, H the heap -/
def isTup : HO → Bool
  | .tup _ => true
  | _ => false
structure Step [Tbs] (G H G' H' : Hp) : Prop where
  g : Ex G G'
  i : Ex G' H'
  h : Ex H H'
  n : ∀ b o, G b = none → H b = some o → isTup o = false → G' b = none
  c : ∀ b o, H b = none → H' b = some o → isCode o = true → G' b ≠ none
section
variable [Tbs] {K : PySem.W.Frag} {G H G1 H1 G2 H2 : Hp}
theorem Step.refl (e : Ex G H) : Step G H G H := ⟨Ex.refl _, e, Ex.refl _, fun _ _ h _ _ => h, fun b o h1 h2 _ => by rw [h1] at h2; cases h2⟩
theorem Step.back {p : Addr} (e : Ex G H) (h : H p = none) : G p = none := fresh_back e h
theorem Step.trans (a : Step G H G1 H1) (b : Step G1 H1 G2 H2) : Step G H G2 H2 := by
  refine ⟨a.g.trans b.g, b.i, a.h.trans b.h, fun x o h1 h2 h3 => ?_, fun x o h1 h2 h3 => ?_⟩
  · cases o with
    | tbl ps =>
      obtain ⟨ps', h', _⟩ := a.h.t x ps h2
      exact b.n x _ (a.n x _ h1 h2 h3) h' rfl
    | _ => exact b.n x _ (a.n x _ h1 h2 h3) (a.h.k x _ h2 rfl) h3
  · cases z : H1 x with
    | none => exact b.c x o z h2 h3
    | some u =>
      have hu : isCode u = true := by
        cases u with
        | tbl _ => rfl
        | ext _ => rfl
        | _ =>
          have h' := b.h.k x _ z rfl
          rw [h2] at h'
          cases h'
          exact h3
      have h' := a.c x u h1 z hu
      intro z2
      exact h' (fresh_back b.g z2)
theorem Ex.both {p : Addr} {o : HO} (e : Ex G H) (h : H p = none) (nc : isCode o = false) : Ex (upd G p o) (upd H p o) := by
  refine ⟨fun b u hb t => ?_, fun b ps hb => ?_⟩
  · by_cases z : b = p
    · subst z; rw [upd_same] at hb; rw [upd_same]; exact hb
    · rw [upd_ne z] at hb; rw [upd_ne z]; exact e.k b u hb t
  · by_cases z : b = p
    · subst z; rw [upd_same] at hb; cases hb; cases nc
    · rw [upd_ne z] at hb
      obtain ⟨ps', h1, g⟩ := e.t b ps hb
      exact ⟨ps', by rw [upd_ne z]; exact h1, g.to (Ex.new h).k⟩
/-- a new object that stays as it is -/
theorem Step.new {p : Addr} {o : HO} (e : Ex G H) (h : H p = none) (nc : isCode o = false := by rfl) : Step G H (upd G p o) (upd H p o) := by
  have gp := fresh_back e h
  refine ⟨Ex.new gp, e.both h nc, Ex.new h, fun b u h1 h2 _ => ?_, fun b u h1 h2 h3 => ?_⟩
  · by_cases z : b = p
    · subst z; rw [h] at h2; cases h2
    · rw [upd_ne z]; exact h1
  · by_cases z : b = p
    · subst z; rw [upd_same] at h2; cases h2; rw [nc] at h3; cases h3
    · rw [upd_ne z, h1] at h2; cases h2
/-- a new object that may change yet -/
theorem Step.own {p : Addr} {o : HO} (e : Ex G H) (h : H p = none) (nc : isCode o = false := by rfl) : Step G H G (upd H p o) :=
  ⟨Ex.refl _, e.trans (Ex.new h), Ex.new h, fun _ _ h _ _ => h, fun b u h1 h2 h3 => by
    by_cases z : b = p
    · subst z; rw [upd_same] at h2; cases h2; rw [nc] at h3; cases h3
    · rw [upd_ne z, h1] at h2; cases h2⟩
theorem Step.nocode {p : Addr} (s : Step G H G1 H1) (h : H p = none) (g : G1 p = none) : ∀ u, H1 p = some u → isCode u = false := fun u hu => by
  cases z : isCode u with
  | false => rfl
  | true => exact absurd g (s.c p u h hu z)
/-- an own object changes -/
theorem Step.mut {p : Addr} {o : HO} (s : Step G H G1 H1) (h : H p = none) (g : G1 p = none) (nc : isCode o = false := by rfl) : Step G H G1 (upd H1 p o) :=
  ⟨s.g, Ex.mut s.i g (s.nocode h g), Ex.mut s.h h (s.nocode h g), s.n, fun b u h1 h2 h3 => by
    by_cases z : b = p
    · subst z; rw [upd_same] at h2; cases h2; rw [nc] at h3; cases h3
    · rw [upd_ne z] at h2; exact s.c b u h1 h2 h3⟩
/-- taken into what stays -/
theorem Ex.take {p : Addr} {o : HO} (e : Ex G H) (x : H p = some o) (nc : isCode o = false) : Ex (upd G p o) H := by
  refine ⟨fun b u hb t => ?_, fun b ps hb => ?_⟩
  · by_cases z : b = p
    · subst z; rw [upd_same] at hb; cases hb; exact x
    · rw [upd_ne z] at hb; exact e.k b u hb t
  · by_cases z : b = p
    · subst z; rw [upd_same] at hb; cases hb; cases nc
    · rw [upd_ne z] at hb; exact e.t b ps hb
/-- an own object changes no more -/
theorem Step.freeze {p : Addr} {o : HO} (s : Step G H G1 H1) (h : H p = none) (g : G1 p = none) (x : H1 p = some o) : Step G H (upd G1 p o) H1 :=
  ⟨s.g.trans (Ex.new g), s.i.take x (s.nocode h g o x), s.h, fun b u h1 h2 h3 => by
    by_cases z : b = p
    · subst z; rw [h] at h2; cases h2
    · rw [upd_ne z]; exact s.n b u h1 h2 h3, fun b u h1 h2 h3 => by
    by_cases z : b = p
    · subst z; rw [upd_same]; intro q; cases q
    · rw [upd_ne z]; exact s.c b u h1 h2 h3⟩
/-- a tuple never changes -/
theorem Step.tup {p : Addr} {xs : List V} (e : Ex G H) (x : H p = some (.tup xs)) : Step G H (upd G p (.tup xs)) H := by
  by_cases gp : G p = none
  · exact ⟨Ex.new gp, e.take x rfl, Ex.refl _, fun b u h1 h2 h3 => by
      by_cases z : b = p
      · subst z; rw [x] at h2; cases h2; cases h3
      · rw [upd_ne z]; exact h1, fun b o h1 h2 _ => by rw [h1] at h2; cases h2⟩
  · have e1 : upd G p (.tup xs) = G := by
      funext b
      by_cases z : b = p
      · subst z
        rw [upd_same]
        cases q : G b with
        | none => exact absurd q gp
        | some o =>
          cases o with
          | tbl ps =>
            obtain ⟨ps', h', _⟩ := e.t b ps q
            rw [x] at h'
            cases h'
          | _ =>
            have h' := e.k b _ q rfl
            rw [x] at h'
            exact h'
      · rw [upd_ne z]
    rw [e1]
    exact Step.refl e
/-- an own object through a step -/
theorem Step.keep {p : Addr} {o : HO} (s : Step G H G1 H1) (g : G p = none) (x : H p = some o) (t : isTup o = false := by rfl) (tt : isTbl o = false := by rfl) : G1 p = none ∧ H1 p = some o :=
  ⟨s.n p o g x t, s.h.k p o x tt⟩
theorem Step.pre {p : Addr} (s : Step G H G1 H1) (h : H1 p = none) : H p = none := fresh_back s.h h
theorem Step.ex {H0 : Hp} (e : Ex H0 H) (s : Step G H G1 H1) : Ex H0 H1 := e.trans s.h
end

/-! ### what an expression comes to -/
section
variable [Tbs] (K : PySem.W.Frag)
def EvD (te : TE) (σ : L2.St) (G : Hp) (d : D) : Prop := ∀ H, Ex G H → ∀ Q : VK, (∀ v G' H', Step G H G' H' → Rp K G' v d → Q v H') → te σ H Q
/-- a new list -/
def EvF (te : TE) (σ : L2.St) (G : Hp) (ds : List D) : Prop := ∀ H, Ex G H → ∀ Q : VK, (∀ p xs G' H', Step G H G' H' → H p = none → G' p = none → H' p = some (.lst xs) → RpA K G' xs ds → Q (.ref p) H') → te σ H Q
def EvB (tt : TT) (σ : L2.St) (G : Hp) (b : Bool) : Prop := ∀ H, Ex G H → ∀ Q : Bool → Hp → Prop, (∀ G' H', Step G H G' H' → Q b H') → tt σ H Q
def EvAs (ta : TA) (σ : L2.St) (G : Hp) (ds : List D) : Prop := ∀ H, Ex G H → ∀ Q : List V → Hp → Prop, (∀ vs G' H', Step G H G' H' → RpA K G' vs ds → Q vs H') → ta σ H Q
def EvP (to : TO) (σ : L2.St) (G : Hp) (o : Option Int) : Prop := ∀ H, Ex G H → ∀ Q : Option Int → Hp → Prop, (∀ G' H', Step G H G' H' → Q o H') → to σ H Q
end
theorem Step.widen [Tbs] {G H G' H' G1 : Hp} (e : Ex G G1) (a : Ex G1 H) (s : Step G H G' H') : ∃ G2, Step G1 H G2 H' ∧ Kx G' G2 ∧ ∀ b, H b = none → G' b = none → G2 b = none := by
  have kk : ∀ b, G1 b = none → (fun b => match G1 b with | some o => some o | none => G' b) b = G' b := fun b hb => by
    show (match G1 b with | some o => some o | none => G' b) = G' b
    rw [hb]
  have ks : ∀ b o, G1 b = some o → (fun b => match G1 b with | some o => some o | none => G' b) b = some o := fun b o hb => by
    show (match G1 b with | some o => some o | none => G' b) = some o
    rw [hb]
  generalize (fun b => match G1 b with | some o => some o | none => G' b) = G2 at kk ks
  -- what stands in both
  have same : ∀ b o, G' b = some o → isTbl o = false → G2 b = some o := fun b o hb t => by
    cases q : G1 b with
    | none => rw [kk b q]; exact hb
    | some u =>
      rw [ks b u q]
      have w2 := s.i.k b o hb t
      cases u with
      | tbl ps =>
        obtain ⟨ps', h1, _⟩ := a.t b ps q
        obtain ⟨ps2, h2, _⟩ := s.h.t b ps' h1
        rw [w2] at h2
        cases h2
        cases t
      | _ =>
        have w1 := s.h.k b _ (a.k b _ q rfl) rfl
        rw [w2] at w1
        exact w1.symm
  have notbl : ∀ b ps, G1 b = none → G' b = some (.tbl ps) → G b = none := fun b ps q _ => fresh_back e q
  refine ⟨G2, ⟨.of ks, ⟨fun b o hb t => ?_, fun b ps hb => ?_⟩, s.h, fun b u h1 h2 h3 => ?_, fun b u h1 h2 h3 => ?_⟩, same, fun b h1 h2 => ?_⟩
  · cases q : G1 b with
    | none => rw [kk b q] at hb; exact s.i.k b o hb t
    | some u =>
      rw [ks b u q] at hb
      cases hb
      exact s.h.k b _ (a.k b _ q t) t
  · cases q : G1 b with
    | none => rw [kk b q] at hb; exact s.i.t b ps hb
    | some u =>
      rw [ks b u q] at hb
      cases hb
      exact (a.trans s.h).t b ps q
  · rw [kk b h1]
    exact s.n b u (fresh_back e h1) h2 h3
  · have z := s.c b u h1 h2 h3
    intro q
    have q1 : G1 b = none := fresh_back a h1
    rw [kk b q1] at q
    exact z q
  · rw [kk b (fresh_back a h1)]
    exact h2

section
variable [Tbs] {K : PySem.W.Frag} {σ : L2.St} {G G1 H : Hp} {ta tb tc te tx : TE} {t u : TT} {x y z v : V} {d d1 d2 d3 : D} {ds es : List D} {as bs : TA} {i j k n m : Int} {a b c : Bool}
theorem EvD.mono (e : Ex G G1) (h : EvD K te σ G d) : EvD K te σ G1 d := fun H a Q q => h H (e.trans a) Q fun v G' H' s r => by
  obtain ⟨G2, s2, e2, _⟩ := s.widen e a
  exact q v G2 H' s2 (r.exk e2)
theorem EvF.mono (e : Ex G G1) (h : EvF K te σ G ds) : EvF K te σ G1 ds := fun H a Q q => h H (e.trans a) Q fun p xs G' H' s h1 h2 h3 r => by
  obtain ⟨G2, s2, e2, n2⟩ := s.widen e a
  exact q p xs G2 H' s2 h1 (n2 p h1 h2) h3 (r.exk e2)
theorem EvB.mono {b : Bool} (e : Ex G G1) (h : EvB t σ G b) : EvB t σ G1 b := fun H a Q q => h H (e.trans a) Q fun G' H' s => by
  obtain ⟨G2, s2, e2, n2⟩ := s.widen e a
  exact q G2 H' s2
theorem EvAs.mono (e : Ex G G1) (h : EvAs K as σ G ds) : EvAs K as σ G1 ds := fun H a Q q => h H (e.trans a) Q fun v G' H' s r => by
  obtain ⟨G2, s2, e2, _⟩ := s.widen e a
  exact q v G2 H' s2 (r.exk e2)
/-- a new list, as data -/
theorem EvF.toD (h : EvF K te σ G ds) : EvD K te σ G (.lst ds) := fun H a Q q => h H a Q fun p xs G' H' s h1 h2 h3 r =>
  q _ _ H' (s.freeze h1 h2 h3) (.lst upd_same (r.ex (Ex.new h2)))
theorem EvD.eq (h : EvD K te σ G d) (e : d = d1) : EvD K te σ G d1 := e ▸ h
theorem EvF.eq (h : EvF K te σ G ds) (e : ds = es) : EvF K te σ G es := e ▸ h
theorem EvB.eq (h : EvB t σ G a) (e : a = b) : EvB t σ G b := e ▸ h

/-! #### names, constants -/
theorem e_var {i : Nat} (h : σ[i]? = some (some v)) (r : Rp K G v d) : EvD K (tVar i) σ G d := fun H e Q q => ⟨v, h, q v G H (Step.refl e) r⟩
theorem e_int {i : Int} : EvD K (tC (.int i)) σ G (.int i) := fun H e Q q => q _ G H (Step.refl e) (.int i)
theorem e_bl {b : Bool} : EvD K (tC (.bl b)) σ G (.bl b) := fun H e Q q => q _ G H (Step.refl e) (.bl b)
theorem e_str {x : Str} : EvD K (tC (.str x)) σ G (.str x) := fun H e Q q => q _ G H (Step.refl e) (.str x)
theorem e_non : EvD K (tC .non) σ G .non := fun H e Q q => q _ G H (Step.refl e) .non
theorem e_c (r : Rp K G v d) : EvD K (tC v) σ G d := fun H e Q q => q _ G H (Step.refl e) r

/-! #### two values, an operation on values -/
theorem e_op {r : R2} (ha : EvD K ta σ G d1) (hb : EvD K tb σ G d2) (hr : ∀ x y G1 H1 Q, Ex G G1 → Ex G1 H1 → Rp K G1 x d1 → Rp K G1 y d2 → (∀ v G2 H2, Step G1 H1 G2 H2 → Rp K G2 v d → Q v H2) → r x y H1 Q) : EvD K (tOp r ta tb) σ G d := fun H e Q q =>
  ha H e _ fun x G1 H1 s1 r1 => (hb.mono s1.g) H1 s1.i _ fun y G2 H2 s2 r2 => hr x y G2 H2 Q (s1.g.trans s2.g) s2.i (r1.ex s2.g) r2 fun v G3 H3 s3 r3 => q v G3 H3 ((s1.trans s2).trans s3) r3
theorem e_I0 {g : Int → Int → V} (ha : EvD K ta σ G (.int i)) (hb : EvD K tb σ G (.int j)) (hg : ∀ H, Rp K H (g i j) d) : EvD K (tOp (rI0 g) ta tb) σ G d :=
  e_op ha hb fun x y G1 H1 Q e1 e2 r1 r2 q => ⟨i, j, r1.int_of, r2.int_of, q _ G1 H1 (Step.refl e2) (hg _)⟩
theorem e_I {C : Int → Int → Prop} {g : Int → Int → V} (ha : EvD K ta σ G (.int i)) (hb : EvD K tb σ G (.int j)) (hc : C i j) (hg : ∀ H, Rp K H (g i j) d) : EvD K (tOp (rI C g) ta tb) σ G d :=
  e_op ha hb fun x y G1 H1 Q e1 e2 r1 r2 q => ⟨i, j, r1.int_of, r2.int_of, hc, q _ G1 H1 (Step.refl e2) (hg _)⟩
theorem e_add (ha : EvD K ta σ G (.int i)) (hb : EvD K tb σ G (.int j)) : EvD K (tOp (rI0 fun i j => .int (i + j)) ta tb) σ G (.int (i + j)) := e_I0 ha hb fun _ => .int _
theorem e_sub (ha : EvD K ta σ G (.int i)) (hb : EvD K tb σ G (.int j)) : EvD K (tOp (rI0 fun i j => .int (i - j)) ta tb) σ G (.int (i - j)) := e_I0 ha hb fun _ => .int _
theorem e_mul (ha : EvD K ta σ G (.int i)) (hb : EvD K tb σ G (.int j)) (hc : CMul i j) : EvD K (tOp (rI CMul fun i j => .int (i * j)) ta tb) σ G (.int (i * j)) := e_I ha hb hc fun _ => .int _
theorem e_mod (ha : EvD K ta σ G (.int i)) (hb : EvD K tb σ G (.int j)) (hc : 0 < j) : EvD K (tOp (rI (fun _ j => 0 < j) fun i j => .int (i % j)) ta tb) σ G (.int (i % j)) := e_I ha hb hc fun _ => .int _
theorem e_fdiv (ha : EvD K ta σ G (.int i)) (hb : EvD K tb σ G (.int j)) (hc : CDiv i j) : EvD K (tOp (rI CDiv fun i j => .int (i / j)) ta tb) σ G (.int (i / j)) := e_I ha hb hc fun _ => .int _
theorem e_pow (ha : EvD K ta σ G (.int i)) (hb : EvD K tb σ G (.int j)) (hc : CPow i j) : EvD K (tOp (rI CPow fun i j => .int (i ^ j.toNat)) ta tb) σ G (.int (i ^ j.toNat)) := e_I ha hb hc fun _ => .int _
theorem e_lt (ha : EvD K ta σ G (.int i)) (hb : EvD K tb σ G (.int j)) : EvD K (tOp (rI0 fun i j => .bl (decide (i < j))) ta tb) σ G (.bl (decide (i < j))) := e_I0 ha hb fun _ => .bl _
theorem e_le (ha : EvD K ta σ G (.int i)) (hb : EvD K tb σ G (.int j)) : EvD K (tOp (rI0 fun i j => .bl (decide (i ≤ j))) ta tb) σ G (.bl (decide (i ≤ j))) := e_I0 ha hb fun _ => .bl _
theorem e_gt (ha : EvD K ta σ G (.int i)) (hb : EvD K tb σ G (.int j)) : EvD K (tOp (rI0 fun i j => .bl (decide (j < i))) ta tb) σ G (.bl (decide (j < i))) := e_I0 ha hb fun _ => .bl _
theorem e_ge (ha : EvD K ta σ G (.int i)) (hb : EvD K tb σ G (.int j)) : EvD K (tOp (rI0 fun i j => .bl (decide (j ≤ i))) ta tb) σ G (.bl (decide (j ≤ i))) := e_I0 ha hb fun _ => .bl _
theorem e_addS {p q : Str} (ha : EvD K ta σ G (.str p)) (hb : EvD K tb σ G (.str q)) (hl : p.length + q.length ≤ sizeLine) :
    EvD K (tOp (fun x y H Q => ∃ i j, x = .str i ∧ y = .str j ∧ i.length + j.length ≤ sizeLine ∧ Q (.str (i ++ j)) H) ta tb) σ G (.str (p ++ q)) :=
  e_op ha hb fun x y G1 H1 Q e1 e2 r1 r2 k => ⟨p, q, r1.str_of, r2.str_of, hl, k _ G1 H1 (Step.refl e2) (.str _)⟩

/-! #### == and != -/
def rEqA (K : PySem.W.Frag) : R2 := fun x y H Q => rEq x y H Q ∨ rEqD K x y H Q
def rNeA (K : PySem.W.Frag) : R2 := fun x y H Q => rNe x y H Q ∨ rNeD K x y H Q
theorem op_eqA {X : Cx} (hu : X.A.units + 64 < cLine) : OpR X (compareOp .Eq) (rEqA X.K) := op_eq.or (op_eqD hu)
theorem op_neA {X : Cx} (hu : X.A.units + 64 < cLine) : OpR X (compareOp .NotEq) (rNeA X.K) := op_ne.or (op_neD hu)
def D.eqS : D → D → Option Bool
  | .int i, .int j => some (decide (i = j))
  | .str i, .str j => some (decide (i = j))
  | .bl i, .bl j => some (decide (i = j))
  | _, _ => none
theorem dec_iff {p q : Prop} [Decidable p] [Decidable q] (h : p ↔ q) : decide p = decide q := by
  by_cases hp : p
  · rw [decide_eq_true hp, decide_eq_true (h.mp hp)]
  · rw [decide_eq_false hp, decide_eq_false (fun z => hp (h.mpr z))]
theorem eqS_scal {r : Bool} (r1 : Rp K G x d1) (r2 : Rp K G y d2) (h : d1.eqS d2 = some r) : scal x y = true ∧ decide (x = y) = r := by
  cases r1 <;> cases r2 <;> first | cases h | skip
  · exact ⟨rfl, dec_iff ⟨fun h => V.bl.inj h, fun h => congrArg _ h⟩⟩
  · exact ⟨rfl, dec_iff ⟨fun h => V.int.inj h, fun h => congrArg _ h⟩⟩
  · exact ⟨rfl, dec_iff ⟨fun h => V.str.inj h, fun h => congrArg _ h⟩⟩
theorem e_eq {r : Bool} (ha : EvD K ta σ G d1) (hb : EvD K tb σ G d2) (h : d1.eqS d2 = some r) : EvD K (tOp (rEqA K) ta tb) σ G (.bl r) :=
  e_op ha hb fun x y G1 H1 Q e1 e2 r1 r2 k => by
    obtain ⟨h1, h2⟩ := eqS_scal r1 r2 h
    refine .inl ⟨h1, ?_⟩
    rw [h2]
    exact k _ G1 H1 (Step.refl e2) (.bl _)
theorem e_ne {r : Bool} (ha : EvD K ta σ G d1) (hb : EvD K tb σ G d2) (h : d1.eqS d2 = some r) : EvD K (tOp (rNeA K) ta tb) σ G (.bl (!r)) :=
  e_op ha hb fun x y G1 H1 Q e1 e2 r1 r2 k => by
    obtain ⟨h1, h2⟩ := eqS_scal r1 r2 h
    refine .inl ⟨h1, ?_⟩
    rw [h2]
    exact k _ G1 H1 (Step.refl e2) (.bl _)
def D.ok (d : D) : Bool := d.plain && SeqAt.shaped d.py
theorem e_eqD (ha : EvD K ta σ G d1) (hb : EvD K tb σ G d2) (h1 : d1.ok = true) (h2 : d2.ok = true) : EvD K (tOp (rEqA K) ta tb) σ G (.bl (PyData.eqv d1.py d2.py)) :=
  e_op ha hb fun x y G1 H1 Q e1 e2 r1 r2 k => by
    have q1 := (Bool.and_eq_true _ _).mp h1
    have q2 := (Bool.and_eq_true _ _).mp h2
    exact .inr ⟨_, _, (r1.ex e2).dp q1.1, (r2.ex e2).dp q2.1, q1.2, q2.2, k _ G1 H1 (Step.refl e2) (.bl _)⟩
theorem e_neD (ha : EvD K ta σ G d1) (hb : EvD K tb σ G d2) (h1 : d1.ok = true) (h2 : d2.ok = true) : EvD K (tOp (rNeA K) ta tb) σ G (.bl (!PyData.eqv d1.py d2.py)) :=
  e_op ha hb fun x y G1 H1 Q e1 e2 r1 r2 k => by
    have q1 := (Bool.and_eq_true _ _).mp h1
    have q2 := (Bool.and_eq_true _ _).mp h2
    exact .inr ⟨_, _, (r1.ex e2).dp q1.1, (r2.ex e2).dp q2.1, q1.2, q2.2, k _ G1 H1 (Step.refl e2) (.bl _)⟩
theorem e_isN (ha : EvD K ta σ G d) (h : b = (match d with | .non => true | _ => false)) : EvD K (tOp (fun x y H Q => y = .non ∧ Q (.bl (decide (x = .non))) H) ta (tC .non)) σ G (.bl b) :=
  e_op (d2 := .non) ha e_non fun x y G1 H1 Q e1 e2 r1 r2 k => ⟨r2.non_of, by
    have z : decide (x = .non) = b := by subst h; cases r1 <;> rfl
    rw [z]
    exact k _ G1 H1 (Step.refl e2) (.bl _)⟩
theorem e_notN (ha : EvD K ta σ G d) (h : b = (match d with | .non => false | _ => true)) : EvD K (tOp (fun x y H Q => y = .non ∧ Q (.bl (!decide (x = .non))) H) ta (tC .non)) σ G (.bl b) :=
  e_op (d2 := .non) ha e_non fun x y G1 H1 Q e1 e2 r1 r2 k => ⟨r2.non_of, by
    have z : (!decide (x = .non)) = b := by subst h; cases r1 <;> rfl
    rw [z]
    exact k _ G1 H1 (Step.refl e2) (.bl _)⟩

/-! #### items, slices, in -/
def D.at (d : D) (i : Int) : Option D := match d with
  | .tup ds => atI ds i
  | .lst ds => atI ds i
  | _ => none
theorem atI_rp {xs : List V} (r : RpA K H xs ds) (h : atI ds i = some d) : ∃ v, atI xs i = some v ∧ Rp K H v d := by
  unfold atI at h ⊢
  rw [r.len]
  cases q : ixN ds.length i with
  | none => rw [q] at h; cases h
  | some j =>
    rw [q] at h
    exact r.at h
theorem e_ix (ha : EvD K ta σ G d1) (hb : EvD K tb σ G (.int i)) (h : d1.at i = some d) : EvD K (tOp (rIx K) ta tb) σ G d :=
  e_op ha hb fun x y G1 H1 Q e1 e2 r1 r2 k => by
    cases d1 with
    | tup ds =>
      obtain ⟨a, xs, rfl, hs, ha⟩ := r1.tup_of
      obtain ⟨v, hv, rv⟩ := atI_rp ha h
      exact .inr (.inl ⟨a, xs, i, v, rfl, r2.int_of, .of (e2 _ _ hs), hv, k v G1 H1 (Step.refl e2) rv⟩)
    | lst ds =>
      obtain ⟨a, xs, rfl, hs, ha⟩ := r1.lst_of
      obtain ⟨v, hv, rv⟩ := atI_rp ha h
      exact .inl ⟨a, xs, i, v, rfl, r2.int_of, .of (e2 _ _ hs), hv, k v G1 H1 (Step.refl e2) rv⟩
    | _ => cases h
theorem p_none : EvP tNoPart σ G none := fun H e Q q => q G H (Step.refl e)
theorem p_some (h : EvD K te σ G (.int i)) : EvP (tPart te) σ G (some i) := fun H e Q q => h H e _ fun v G1 H1 s r => ⟨i, r.int_of, q G1 H1 s⟩
theorem EvP.mono {to : TO} {o : Option Int} (e : Ex G G1) (h : EvP to σ G o) : EvP to σ G1 o := fun H a Q q => h H (e.trans a) Q fun G' H' s => by
  obtain ⟨G2, s2, e2, n2⟩ := s.widen e a
  exact q G2 H' s2
def cutD (ds : List D) (lo hi : Option Int) : List D := (ds.drop (HT.sIx ds.length 0 lo)).take (HT.sIx ds.length ds.length hi - HT.sIx ds.length 0 lo)
theorem RpA.cut {xs : List V} (r : RpA K H xs ds) (lo hi : Option Int) : RpA K H (cutV xs lo hi) (cutD ds lo hi) := by
  unfold cutV cutD
  rw [r.len]
  exact (r.drop _).take _
def rSlA (K : PySem.W.Frag) : V → Option Int → Option Int → Hp → VK → Prop := fun x lo hi H Q => rSlL K x lo hi H Q ∨ rSlT K x lo hi H Q
theorem sl_seq {X : Cx} : SlR X (rSlA X.K) := sl_list.or sl_tup
theorem f_sl {tl th : TO} {lo hi : Option Int} (h : EvD K te σ G (.lst ds)) (h1 : EvP tl σ G lo) (h2 : EvP th σ G hi) : EvF K (tSl (rSlA K) te tl th) σ G (cutD ds lo hi) := fun H e Q q =>
  h H e _ fun v G1 H1 s1 r1 => (h1.mono s1.g) H1 s1.i _ fun G2 H2 s2 => (h2.mono (s1.g.trans s2.g)) H2 s2.i _ fun G3 H3 s3 => by
    obtain ⟨a, xs, rfl, hs, ha⟩ := (r1.ex (s2.g.trans s3.g)).lst_of
    have s := (s1.trans s2).trans s3
    exact .inl ⟨a, xs, rfl, .of (s3.i _ _ hs), fun p hp => q p _ G3 _ (s.trans (Step.own s3.i hp)) (s.pre hp) (Step.back s3.i hp) upd_same (ha.cut lo hi)⟩
theorem e_slT {tl th : TO} {lo hi : Option Int} (h : EvD K te σ G (.tup ds)) (h1 : EvP tl σ G lo) (h2 : EvP th σ G hi) (hw : ¬ (HT.sIx ds.length 0 lo = 0 ∧ HT.sIx ds.length ds.length hi = ds.length)) (hd : cutD ds lo hi = es) : EvD K (tSl (rSlA K) te tl th) σ G (.tup es) := fun H e Q q =>
  h H e _ fun v G1 H1 s1 r1 => (h1.mono s1.g) H1 s1.i _ fun G2 H2 s2 => (h2.mono (s1.g.trans s2.g)) H2 s2.i _ fun G3 H3 s3 => by
    obtain ⟨a, xs, rfl, hs, ha⟩ := (r1.ex (s2.g.trans s3.g)).tup_of
    have s := (s1.trans s2).trans s3
    subst hd
    refine .inr ⟨a, xs, rfl, .of (s3.i _ _ hs), by rw [ha.len]; exact hw, fun p hp => q _ _ _ (s.trans (Step.new s3.i hp)) (.tup upd_same ((ha.cut lo hi).ex (Ex.new (Step.back s3.i hp))))⟩
theorem EvP.mono' {to : TO} {o : Option Int} (e : Ex G G1) (h : EvP to σ G o) : EvP to σ G1 o := EvP.mono e h

/-! #### in, not in: over flat items -/
def D.flat : D → Bool
  | .int _ => true
  | .str _ => true
  | .bl _ => true
  | .non => true
  | _ => false
def D.toV : D → V
  | .int i => .int i
  | .str i => .str i
  | .bl i => .bl i
  | _ => .non
theorem Rp.flat (r : Rp K H v d) (h : d.flat = true) : v = d.toV ∧ flatV v = true := by
  cases r <;> first | exact ⟨rfl, rfl⟩ | cases h
theorem RpA.flat : ∀ {ds : List D} {vs : List V}, RpA K H vs ds → ds.all D.flat = true → vs = ds.map D.toV ∧ vs.all flatV = true
  | [], _, h, _ => by cases h; exact ⟨rfl, rfl⟩
  | d :: ds, _, h, p => by
    cases h with
    | cons h1 h2 =>
      rw [List.all_cons, Bool.and_eq_true] at p
      obtain ⟨q1, q2⟩ := h1.flat p.1
      obtain ⟨q3, q4⟩ := RpA.flat h2 p.2
      refine ⟨by rw [List.map_cons, ← q1, ← q3], ?_⟩
      rw [List.all_cons, q2, q4]
      rfl
def D.items : D → List D
  | .tup ds => ds
  | .lst ds => ds
  | _ => []
def D.isSeq : D → Bool
  | .tup _ => true
  | .lst _ => true
  | _ => false
def inD (d : D) (ds : List D) : Bool := inV d.toV (ds.map D.toV)
theorem e_in (ha : EvD K ta σ G d1) (hb : EvD K tb σ G d2) (h0 : d2.isSeq = true) (h1 : d1.flat = true) (h2 : d2.items.all D.flat = true) : EvD K (tOp (rIn K false) ta tb) σ G (.bl (inD d1 d2.items)) :=
  e_op ha hb fun x y G1 H1 Q e1 e2 r1 r2 k => by
    obtain ⟨q1, q2⟩ := r1.flat h1
    cases d2 with
    | tup ds =>
      obtain ⟨a, xs, rfl, hs, ha⟩ := r2.tup_of
      obtain ⟨q3, q4⟩ := ha.flat h2
      refine ⟨a, xs, rfl, .inr (.of (e2 _ _ hs)), q2, q4, ?_⟩
      subst q1 q3
      exact k _ G1 H1 (Step.refl e2) (.bl _)
    | lst ds =>
      obtain ⟨a, xs, rfl, hs, ha⟩ := r2.lst_of
      obtain ⟨q3, q4⟩ := ha.flat h2
      refine ⟨a, xs, rfl, .inl (.of (e2 _ _ hs)), q2, q4, ?_⟩
      subst q1 q3
      exact k _ G1 H1 (Step.refl e2) (.bl _)
    | _ => cases h0
theorem e_nin (ha : EvD K ta σ G d1) (hb : EvD K tb σ G d2) (h0 : d2.isSeq = true) (h1 : d1.flat = true) (h2 : d2.items.all D.flat = true) : EvD K (tOp (rIn K true) ta tb) σ G (.bl (!inD d1 d2.items)) :=
  e_op ha hb fun x y G1 H1 Q e1 e2 r1 r2 k => by
    obtain ⟨q1, q2⟩ := r1.flat h1
    cases d2 with
    | tup ds =>
      obtain ⟨a, xs, rfl, hs, ha⟩ := r2.tup_of
      obtain ⟨q3, q4⟩ := ha.flat h2
      refine ⟨a, xs, rfl, .inr (.of (e2 _ _ hs)), q2, q4, ?_⟩
      subst q1 q3
      exact k _ G1 H1 (Step.refl e2) (.bl _)
    | lst ds =>
      obtain ⟨a, xs, rfl, hs, ha⟩ := r2.lst_of
      obtain ⟨q3, q4⟩ := ha.flat h2
      refine ⟨a, xs, rfl, .inl (.of (e2 _ _ hs)), q2, q4, ?_⟩
      subst q1 q3
      exact k _ G1 H1 (Step.refl e2) (.bl _)
    | _ => cases h0

/-! #### displays, arguments -/
theorem a_nil : EvAs K tNil σ G [] := fun H e Q q => q [] G H (Step.refl e) .nil
theorem a_cons (h : EvD K te σ G d) (hr : EvAs K as σ G ds) : EvAs K (tCons te as) σ G (d :: ds) := fun H e Q q =>
  h H e _ fun v G1 H1 s1 r1 => (hr.mono s1.g) H1 s1.i _ fun vs G2 H2 s2 r2 => q _ G2 H2 (s1.trans s2) (.cons (r1.ex s2.g) r2)
theorem a_one (h : EvD K te σ G d) : EvAs K (tCons te tNil) σ G [d] := a_cons h a_nil
theorem e_tup (h : EvAs K as σ G ds) (hl : ds.length ≤ 100000) : EvD K (tTup as) σ G (.tup ds) := fun H e Q q =>
  h H e _ fun vs G1 H1 s1 r1 => ⟨by rw [r1.len]; exact sz_of hl, fun p hp => q _ _ _ (s1.trans (Step.new s1.i hp)) (.tup upd_same (r1.ex (Ex.new (Step.back s1.i hp))))⟩
theorem f_lst (h : EvAs K as σ G ds) (hl : ds.length ≤ 100000) : EvF K (tLst as) σ G ds := fun H e Q q =>
  h H e _ fun vs G1 H1 s1 r1 => ⟨by rw [r1.len]; exact sz_of hl, fun p hp => q p vs G1 _ (s1.trans (Step.own s1.i hp)) (s1.pre hp) (Step.back s1.i hp) upd_same r1⟩

/-! #### tests, and, or, not, if -/
theorem b_test (h : EvD K te σ G (.bl b)) : EvB (tTest te) σ G b := fun H e Q q => h H e _ fun v G1 H1 s r => ⟨b, r.bl_of, q G1 H1 s⟩
theorem b_B (h : EvD K te σ G (.bl b)) : EvB (tB te) σ G b := fun H e Q q => h H e _ fun v G1 H1 s r => ⟨b, r.bl_of, q G1 H1 s⟩
theorem b_and (h1 : EvB t σ G a) (h2 : a = true → EvB u σ G b) : EvB (tAnd t u) σ G (a && b) := fun H e Q q => h1 H e _ fun G1 H1 s1 => by
  cases a with
  | true =>
    show u σ H1 Q
    exact ((h2 rfl).mono s1.g) H1 s1.i Q fun G2 H2 s2 => q G2 H2 (s1.trans s2)
  | false =>
    show Q false H1
    exact q G1 H1 s1
theorem b_or (h1 : EvB t σ G a) (h2 : a = false → EvB u σ G b) : EvB (tOr t u) σ G (a || b) := fun H e Q q => h1 H e _ fun G1 H1 s1 => by
  cases a with
  | true =>
    show Q true H1
    exact q G1 H1 s1
  | false =>
    show u σ H1 Q
    exact ((h2 rfl).mono s1.g) H1 s1.i Q fun G2 H2 s2 => q G2 H2 (s1.trans s2)
theorem b_not (h1 : EvB t σ G a) : EvB (tNot t) σ G (!a) := fun H e Q q => h1 H e _ fun G1 H1 s1 => q G1 H1 s1
theorem e_and (h1 : EvD K ta σ G (.bl a)) (h2 : a = true → EvD K tb σ G (.bl b)) : EvD K (tAndV ta tb) σ G (.bl (a && b)) := fun H e Q q => h1 H e _ fun v G1 H1 s1 r1 => ⟨a, r1.bl_of, by
  cases a with
  | true =>
    show tb σ H1 Q
    exact ((h2 rfl).mono s1.g) H1 s1.i Q fun v G2 H2 s2 r2 => q v G2 H2 (s1.trans s2) r2
  | false =>
    show Q (.bl false) H1
    exact q _ G1 H1 s1 (.bl _)⟩
theorem e_or (h1 : EvD K ta σ G (.bl a)) (h2 : a = false → EvD K tb σ G (.bl b)) : EvD K (tOrV ta tb) σ G (.bl (a || b)) := fun H e Q q => h1 H e _ fun v G1 H1 s1 r1 => ⟨a, r1.bl_of, by
  cases a with
  | true =>
    show Q (.bl true) H1
    exact q _ G1 H1 s1 (.bl _)
  | false =>
    show tb σ H1 Q
    exact ((h2 rfl).mono s1.g) H1 s1.i Q fun v G2 H2 s2 r2 => q v G2 H2 (s1.trans s2) r2⟩
theorem e_not (h1 : EvD K ta σ G (.bl a)) : EvD K (tNotV ta) σ G (.bl (!a)) := fun H e Q q => h1 H e _ fun v G1 H1 s1 r1 => ⟨a, r1.bl_of, q _ G1 H1 s1 (.bl _)⟩
theorem e_if (h : EvB t σ G a) (h1 : a = true → EvD K ta σ G d) (h2 : a = false → EvD K tb σ G d) : EvD K (tIf t ta tb) σ G d := fun H e Q q => h H e _ fun G1 H1 s1 => by
  cases a with
  | true =>
    show ta σ H1 Q
    exact ((h1 rfl).mono s1.g) H1 s1.i Q fun v G2 H2 s2 r2 => q v G2 H2 (s1.trans s2) r2
  | false =>
    show tb σ H1 Q
    exact ((h2 rfl).mono s1.g) H1 s1.i Q fun v G2 H2 s2 r2 => q v G2 H2 (s1.trans s2) r2
theorem e_if2 (h : EvB t σ G a) (h1 : a = true → EvD K ta σ G d1) (h2 : a = false → EvD K tb σ G d2) : EvD K (tIf t ta tb) σ G (if a = true then d1 else d2) :=
  e_if h (fun q => by subst q; exact h1 rfl) (fun q => by subst q; exact h2 rfl)
theorem e_chain {r r' : R2} (ha : EvD K ta σ G d1) (hb : EvD K tb σ G d2) (hc : a = true → EvD K tc σ G d3)
    (h1 : ∀ x y G1 H1 Q, Ex G G1 → Ex G1 H1 → Rp K G1 x d1 → Rp K G1 y d2 → Q (.bl a) H1 → r x y H1 Q)
    (h2 : ∀ y z G1 H1 Q, Ex G G1 → Ex G1 H1 → Rp K G1 y d2 → Rp K G1 z d3 → Q (.bl b) H1 → r' y z H1 Q) : EvD K (tChain r r' ta tb tc) σ G (.bl (a && b)) := fun H e Q q =>
  ha H e _ fun x G1 H1 s1 r1 => (hb.mono s1.g) H1 s1.i _ fun y G2 H2 s2 r2 => h1 x y G2 H2 _ (s1.g.trans s2.g) s2.i (r1.ex s2.g) r2 ⟨a, rfl, by
    have s12 := s1.trans s2
    cases a with
    | true =>
      exact ((hc rfl).mono s12.g) H2 s12.i _ fun z G3 H3 s3 r3 => h2 y z G3 H3 _ (s12.g.trans s3.g) s3.i (r2.ex s3.g) r3 (q _ G3 H3 (s12.trans s3) (.bl _))
    | false => exact q _ G2 H2 s12 (.bl _)⟩
theorem c_le : ∀ x y (G1 H1 : Hp) (Q : VK), Ex G G1 → Ex G1 H1 → Rp K G1 x (.int i) → Rp K G1 y (.int j) → Q (.bl (decide (i ≤ j))) H1 → rI0 (fun i j => .bl (decide (i ≤ j))) x y H1 Q :=
  fun x y G1 H1 Q e1 e2 r1 r2 k => ⟨i, j, r1.int_of, r2.int_of, k⟩
theorem c_lt : ∀ x y (G1 H1 : Hp) (Q : VK), Ex G G1 → Ex G1 H1 → Rp K G1 x (.int i) → Rp K G1 y (.int j) → Q (.bl (decide (i < j))) H1 → rI0 (fun i j => .bl (decide (i < j))) x y H1 Q :=
  fun x y G1 H1 Q e1 e2 r1 r2 k => ⟨i, j, r1.int_of, r2.int_of, k⟩

/-! #### built-ins -/
theorem e_cb {r : List V → Hp → VK → Prop} (h : EvAs K as σ G ds) (hr : ∀ vs G1 H1 Q, Ex G G1 → Ex G1 H1 → RpA K G1 vs ds → (∀ v G2 H2, Step G1 H1 G2 H2 → Rp K G2 v d → Q v H2) → r vs H1 Q) : EvD K (tCB r as) σ G d := fun H e Q q =>
  h H e _ fun vs G1 H1 s1 r1 => hr vs G1 H1 Q s1.g s1.i r1 fun v G2 H2 s2 r2 => q v G2 H2 (s1.trans s2) r2
theorem RpA.one {vs : List V} (r : RpA K H vs [d]) : ∃ v, vs = [v] ∧ Rp K H v d := by
  cases r with
  | cons r1 r2 => cases r2; exact ⟨_, rfl, r1⟩
theorem RpA.two {vs : List V} (r : RpA K H vs [d1, d2]) : ∃ v w, vs = [v, w] ∧ Rp K H v d1 ∧ Rp K H w d2 := by
  cases r with
  | cons r1 r2 =>
    obtain ⟨w, rfl, r3⟩ := r2.one
    exact ⟨_, _, rfl, r1, r3⟩
theorem RpA.three {vs : List V} (r : RpA K H vs [d1, d2, d3]) : ∃ v w u, vs = [v, w, u] ∧ Rp K H v d1 ∧ Rp K H w d2 ∧ Rp K H u d3 := by
  cases r with
  | cons r1 r2 =>
    obtain ⟨w, u, rfl, r3, r4⟩ := r2.two
    exact ⟨_, _, _, rfl, r1, r3, r4⟩
theorem RpA.four {vs : List V} {d4 : D} (r : RpA K H vs [d1, d2, d3, d4]) : ∃ v w u y, vs = [v, w, u, y] ∧ Rp K H v d1 ∧ Rp K H w d2 ∧ Rp K H u d3 ∧ Rp K H y d4 := by
  cases r with
  | cons r1 r2 =>
    obtain ⟨w, u, y, rfl, r3, r4, r5⟩ := r2.three
    exact ⟨_, _, _, _, rfl, r1, r3, r4, r5⟩
theorem RpA.five {vs : List V} {d4 d5 : D} (r : RpA K H vs [d1, d2, d3, d4, d5]) : ∃ v w u y z, vs = [v, w, u, y, z] ∧ Rp K H v d1 ∧ Rp K H w d2 ∧ Rp K H u d3 ∧ Rp K H y d4 ∧ Rp K H z d5 := by
  cases r with
  | cons r1 r2 =>
    obtain ⟨w, u, y, z, rfl, r3, r4, r5, r6⟩ := r2.four
    exact ⟨_, _, _, _, _, rfl, r1, r3, r4, r5, r6⟩
def D.len : D → Option Nat
  | .tup ds => some ds.length
  | .lst ds => some ds.length
  | _ => none
theorem e_len {n : Nat} (ha : EvD K ta σ G d) (h : d.len = some n) : EvD K (tCB (fun xs H Q => ∃ p ys, xs = [.ref p] ∧ (SqL K H p ys ∨ SqT K H p ys) ∧ Q (.int ys.length) H) (tCons ta tNil)) σ G (.int n) :=
  e_cb (a_one ha) fun vs G1 H1 Q e1 e2 r k => by
    obtain ⟨v, rfl, rr⟩ := r.one
    cases d with
    | tup ds =>
      cases Option.some.inj h
      obtain ⟨a, xs, rfl, hs, ha⟩ := rr.tup_of
      refine ⟨a, xs, rfl, .inr (.of (e2 _ _ hs)), ?_⟩
      rw [ha.len]
      exact k _ G1 H1 (Step.refl e2) (.int _)
    | lst ds =>
      cases Option.some.inj h
      obtain ⟨a, xs, rfl, hs, ha⟩ := rr.lst_of
      refine ⟨a, xs, rfl, .inl (.of (e2 _ _ hs)), ?_⟩
      rw [ha.len]
      exact k _ G1 H1 (Step.refl e2) (.int _)
    | _ => cases h
theorem e_sum {ns : List Int} (ha : EvD K ta σ G (.lst ds)) (h : ds = ns.map D.int) : EvD K (tCB (rSum K) (tCons ta tNil)) σ G (.int ns.sum) :=
  e_cb (a_one ha) fun vs G1 H1 Q e1 e2 r k => by
    obtain ⟨v, rfl, rr⟩ := r.one
    obtain ⟨a, xs, rfl, hs, ha⟩ := rr.lst_of
    subst h
    have := ha.ints
    subst this
    exact ⟨a, ns, rfl, .of (e2 _ _ hs), k _ G1 H1 (Step.refl e2) (.int _)⟩
theorem e_all {bs : List Bool} (ha : EvD K ta σ G (.lst ds)) (h : ds = bs.map D.bl) : EvD K (tCB (rAll K) (tCons ta tNil)) σ G (.bl (bs.all id)) :=
  e_cb (a_one ha) fun vs G1 H1 Q e1 e2 r k => by
    obtain ⟨v, rfl, rr⟩ := r.one
    obtain ⟨a, xs, rfl, hs, ha⟩ := rr.lst_of
    have z : xs = bs.map V.bl := by
      have q := (ha.flat (by subst h; rw [List.all_map]; exact List.all_eq_true.mpr fun _ _ => rfl)).1
      rw [q, h, List.map_map]
      rfl
    subst z
    exact ⟨a, bs, rfl, .of (e2 _ _ hs), k _ G1 H1 (Step.refl e2) (.bl _)⟩
theorem e_abs (ha : EvD K ta σ G (.int i)) : EvD K (tCB (fun xs H Q => ∃ i, xs = [.int i] ∧ Q (.int (if i < 0 then -i else i)) H) (tCons ta tNil)) σ G (.int (if i < 0 then -i else i)) :=
  e_cb (a_one ha) fun vs G1 H1 Q e1 e2 r k => by
    obtain ⟨v, rfl, rr⟩ := r.one
    exact ⟨i, by rw [rr.int_of], k _ G1 H1 (Step.refl e2) (.int _)⟩
theorem e_max2 (ha : EvD K ta σ G (.int i)) (hb : EvD K tb σ G (.int j)) : EvD K (tCB (fun xs H Q => ∃ i j, xs = [.int i, .int j] ∧ Q (.int (if j > i then j else i)) H) (tCons ta (tCons tb tNil))) σ G (.int (if j > i then j else i)) :=
  e_cb (a_cons ha (a_one hb)) fun vs G1 H1 Q e1 e2 r k => by
    obtain ⟨v, w, rfl, r1, r2⟩ := r.two
    exact ⟨i, j, by rw [r1.int_of, r2.int_of], k _ G1 H1 (Step.refl e2) (.int _)⟩
theorem e_min2 (ha : EvD K ta σ G (.int i)) (hb : EvD K tb σ G (.int j)) : EvD K (tCB (fun xs H Q => ∃ i j, xs = [.int i, .int j] ∧ Q (.int (if j < i then j else i)) H) (tCons ta (tCons tb tNil))) σ G (.int (if j < i then j else i)) :=
  e_cb (a_cons ha (a_one hb)) fun vs G1 H1 Q e1 e2 r k => by
    obtain ⟨v, w, rfl, r1, r2⟩ := r.two
    exact ⟨i, j, by rw [r1.int_of, r2.int_of], k _ G1 H1 (Step.refl e2) (.int _)⟩
theorem e_int1b (ha : EvD K ta σ G (.bl b)) : EvD K (tCB (fun xs H Q => (∃ i, xs = [.int i] ∧ Q (.int i) H) ∨ ∃ k, xs = [.bl k] ∧ Q (.int (if k then 1 else 0)) H) (tCons ta tNil)) σ G (.int (if b then 1 else 0)) :=
  e_cb (a_one ha) fun vs G1 H1 Q e1 e2 r k => by
    obtain ⟨v, rfl, rr⟩ := r.one
    exact .inr ⟨b, by rw [rr.bl_of], k _ G1 H1 (Step.refl e2) (.int _)⟩
/-- tuple(list) -/
theorem e_tuple (ha : EvD K ta σ G (.lst ds)) : EvD K (tCB (fun xs H Q => ∃ p ys, xs = [.ref p] ∧ ((SqL K H p ys ∧ ∀ l, H l = none → Q (.ref l) (upd H l (.tup ys))) ∨ (SqT K H p ys ∧ Q (.ref p) H))) (tCons ta tNil)) σ G (.tup ds) :=
  e_cb (a_one ha) fun vs G1 H1 Q e1 e2 r k => by
    obtain ⟨v, rfl, rr⟩ := r.one
    obtain ⟨a, xs, rfl, hs, ha⟩ := rr.lst_of
    exact ⟨a, xs, rfl, .inl ⟨.of (e2 _ _ hs), fun l hl => k _ _ _ (Step.new e2 hl) (.tup upd_same (ha.ex (Ex.new (Step.back e2 hl))))⟩⟩
/-- list(x) -/
theorem f_list (ha : EvD K ta σ G d) (h : d.isSeq = true) : EvF K (tCB (fun xs H Q => ∃ p ys, xs = [.ref p] ∧ (SqL K H p ys ∨ SqT K H p ys) ∧ ∀ l, H l = none → Q (.ref l) (upd H l (.lst ys))) (tCons ta tNil)) σ G d.items := fun H e Q q =>
  a_one ha H e _ fun vs G1 H1 s1 r => by
    obtain ⟨v, rfl, rr⟩ := r.one
    cases d with
    | tup ds =>
      obtain ⟨a, xs, rfl, hs, ha⟩ := rr.tup_of
      exact ⟨a, xs, rfl, .inr (.of (s1.i _ _ hs)), fun l hl => q l xs G1 _ (s1.trans (Step.own s1.i hl)) (s1.pre hl) (Step.back s1.i hl) upd_same ha⟩
    | lst ds =>
      obtain ⟨a, xs, rfl, hs, ha⟩ := rr.lst_of
      exact ⟨a, xs, rfl, .inl (.of (s1.i _ _ hs)), fun l hl => q l xs G1 _ (s1.trans (Step.own s1.i hl)) (s1.pre hl) (Step.back s1.i hl) upd_same ha⟩
    | _ => cases h
/-- isinstance(x, T) -/
def D.ty : D → String
  | .non => "NoneType"
  | .bl _ => "bool"
  | .int _ => "int"
  | .str _ => "str"
  | .tup _ => "tuple"
  | .lst _ => "list"
  | .tab _ => "dict"
  | .dic _ => "dict"
theorem Rp.ty (r : Rp K H v d) : TyX K H v (.type d.ty) := by
  cases r with
  | non => exact .base .non
  | bl b => exact .base (.bl b)
  | int i => exact .base (.int i)
  | str x => exact .base (.str x)
  | tup h _ => exact .base (.tup h)
  | lst h _ => exact .base (.lst h)
  | tab h => exact .base (.dT h)
  | dic h => exact .base (.dK h)
theorem e_isi {n s : String} (ha : EvD K ta σ G d) (hd : d.ty = s) (h : kitB s n = some b) : EvD K (tCB (rIsi K) (tCons ta (tCons (tC (.ty n)) tNil))) σ G (.bl b) := fun H e Q q =>
  ha H e _ fun v G1 H1 s1 r1 => ⟨v, .ty n, _, _, b, rfl, .ty n, (r1.ex s1.i).ty, kit_ty (by rw [hd]; exact h), q _ G1 H1 s1 (.bl _)⟩

/-! #### calls of defs that leave all as it is -/
/-- f of data ds is r -/
def spP (K : PySem.W.Frag) (R : List D → D → Prop) : Sp := fun vs H Q _ => ∃ G ds r, Ex G H ∧ RpA K G vs ds ∧ R ds r ∧ ∀ v G' H', Step G H G' H' → Rp K G' v r → Q v H'
/-- .., a new list -/
def spF (K : PySem.W.Frag) (R : List D → List D → Prop) : Sp := fun vs H Q _ => ∃ G ds r, Ex G H ∧ RpA K G vs ds ∧ R ds r ∧ ∀ p xs G' H', Step G H G' H' → H p = none → G' p = none → H' p = some (.lst xs) → RpA K G' xs r → Q (.ref p) H'
theorem e_call {R : List D → D → Prop} {E : XK} (h : EvAs K as σ G ds) (hr : R ds d) : EvD K (tCall (spP K R) [] E as) σ G d := fun H e Q q =>
  h H e _ fun vs G1 H1 s1 r1 => ⟨G1, ds, d, s1.i, by rw [List.append_nil]; exact r1, hr, fun v G2 H2 s2 r2 => q v G2 H2 (s1.trans s2) r2⟩
theorem f_call {R : List D → List D → Prop} {E : XK} (h : EvAs K as σ G ds) (hr : R ds es) : EvF K (tCall (spF K R) [] E as) σ G es := fun H e Q q =>
  h H e _ fun vs G1 H1 s1 r1 => ⟨G1, ds, es, s1.i, by rw [List.append_nil]; exact r1, hr, fun p xs G2 H2 s2 h1 h2 h3 r2 => q p xs G2 H2 (s1.trans s2) (s1.pre h1) h2 h3 r2⟩

/-! #### dicts that stand -/
def kD : Key → D
  | .inl i => .int i
  | .inr s => .str s
theorem Rp.key {k : Key} (r : Rp K H v (kD k)) : v = kV k := by
  cases k <;> (cases r; rfl)
theorem RpA.keys : ∀ {ks : List Key} {vs : List V}, RpA K H vs (ks.map kD) → vs = ks.map kV
  | [], _, h => by cases h; rfl
  | k :: ks, _, h => by
    cases h with
    | cons h1 h2 => rw [h1.key, RpA.keys h2]; rfl
def vD : V → D
  | .non => .non
  | .bl b => .bl b
  | .int i => .int i
  | .str s => .str s
  | _ => .non
def scalV : V → Bool
  | .non => true
  | .bl _ => true
  | .int _ => true
  | .str _ => true
  | _ => false
theorem rp_vD (h : scalV v = true) : Rp K H v (vD v) := by
  cases v <;> first | exact .non | exact .bl _ | exact .int _ | exact .str _ | cases h
theorem dget_of {kvs : List (List Key × V)} {ks : List Key} (e : Ex G H) (r1 : Rp K G x (.tab kvs)) (r2 : Rp K G y (.tup (ks.map kD))) : ∃ a, x = .ref a ∧ DGet H a y (valV kvs ks) ∧ IsD H a := by
  obtain ⟨a, rfl, ha⟩ := r1.tab_of
  obtain ⟨b, xs, rfl, hb, hx⟩ := r2.tup_of
  have := hx.keys
  subst this
  exact ⟨a, rfl, DGet.t (e _ _ ha) (e _ _ hb), .inr ⟨kvs, .inl (e _ _ ha)⟩⟩
theorem e_dget {kvs : List (List Key × V)} {ks : List Key} (ha : EvD K ta σ G (.tab kvs)) (hb : EvD K tb σ G d) (hk : d = .tup (ks.map kD)) (h : valV kvs ks = some v) (hv : scalV v = true) : EvD K (tDGet ta tb) σ G (vD v) := fun H e Q q =>
  ha H e _ fun x G1 H1 s1 r1 => (hb.mono s1.g) H1 s1.i _ fun y G2 H2 s2 r2 => by
    subst hk
    obtain ⟨a, rfl, hg, _⟩ := dget_of s2.i (r1.ex s2.g) r2
    rw [h] at hg
    exact ⟨a, v, rfl, hg, q v G2 H2 (s1.trans s2) (rp_vD hv)⟩
theorem e_dget2 {kvs : List (List Key × V)} {ks : List Key} (ha : EvD K ta σ G (.tab kvs)) (hb : EvD K tb σ G d) (hk : d = .tup (ks.map kD)) (hc : EvD K tc σ G d1) (h1 : d1.flat = true) (hv : ∀ v, valV kvs ks = some v → scalV v = true) :
    EvD K (tDGet2 ta tb tc) σ G (vD ((valV kvs ks).getD d1.toV)) := fun H e Q q =>
  ha H e _ fun x G1 H1 s1 r1 => by
    obtain ⟨a, rfl, ha⟩ := r1.tab_of
    refine ⟨a, rfl, .inr ⟨kvs, .inl (s1.i _ _ ha)⟩, (hb.mono s1.g) H1 s1.i _ fun y G2 H2 s2 r2 => (hc.mono (s1.g.trans s2.g)) H2 s2.i _ fun z G3 H3 s3 r3 => ?_⟩
    subst hk
    obtain ⟨a', ea, hg, _⟩ := dget_of s3.i (r1.ex (s2.g.trans s3.g)) (r2.ex s3.g)
    cases ea
    refine ⟨_, hg, q _ G3 H3 ((s1.trans s2).trans s3) ?_⟩
    rw [(r3.flat h1).1]
    apply rp_vD
    cases w : valV kvs ks with
    | some v => exact hv v w
    | none => cases d1 <;> first | rfl | cases h1
theorem e_din {kvs : List (List Key × V)} {ks : List Key} (hb : EvD K tb σ G d) (ha : EvD K ta σ G (.tab kvs)) (hk : d = .tup (ks.map kD)) : EvD K (tDIn tb ta) σ G (.bl (valV kvs ks).isSome) := fun H e Q q =>
  hb H e _ fun y G1 H1 s1 r1 => (ha.mono s1.g) H1 s1.i _ fun x G2 H2 s2 r2 => by
    subst hk
    obtain ⟨a, rfl, hg, _⟩ := dget_of s2.i r2 (r1.ex s2.g)
    exact ⟨a, _, rfl, hg, q _ G2 H2 (s1.trans s2) (.bl _)⟩
theorem e_dnin {kvs : List (List Key × V)} {ks : List Key} (hb : EvD K tb σ G d) (ha : EvD K ta σ G (.tab kvs)) (hk : d = .tup (ks.map kD)) : EvD K (tDNotIn tb ta) σ G (.bl (!(valV kvs ks).isSome)) := fun H e Q q =>
  hb H e _ fun y G1 H1 s1 r1 => (ha.mono s1.g) H1 s1.i _ fun x G2 H2 s2 r2 => by
    subst hk
    obtain ⟨a, rfl, hg, _⟩ := dget_of s2.i r2 (r1.ex s2.g)
    exact ⟨a, _, rfl, hg, q _ G2 H2 (s1.trans s2) (.bl _)⟩
end

/-! ### walks -/
structure WalkD [Tbs] (K : PySem.W.Frag) (J : It) (n : Nat) (G : Hp) (Y : Nat → D) : Prop where
  goes : ∀ i H, i < n → Ex G H → J.go i H
  stops : ∀ H, Ex G H → J.stop n H
  yields : ∀ i G1 H x H', i < n → Ex G G1 → Ex G1 H → J.yld i H x H' → ∃ G2, Step G1 H G2 H' ∧ Rp K G2 x (Y i)
def EvI [Tbs] (K : PySem.W.Frag) (wi : TI) (σ : L2.St) (G : Hp) (n : Nat) (Y : Nat → D) : Prop := ∀ H, Ex G H → ∀ R : It → Hp → Prop, (∀ J G' H', Step G H G' H' → WalkD K J n G' Y → R J H') → wi σ H R
def nth (ds : List D) (i : Nat) : D := ds.getD i .non
theorem nth_of {ds : List D} {i : Nat} {d : D} (h : ds[i]? = some d) : nth ds i = d := by
  unfold nth
  rw [List.getD_eq_getElem?_getD, h]
  rfl
theorem nth_map {α : Type} {xs : List α} {f : α → D} {i : Nat} {x : α} (h : xs[i]? = some x) : nth (xs.map f) i = f x := nth_of (by rw [List.getElem?_map, h]; rfl)
def setAll (σ : L2.St) : List Nat → List V → L2.St
  | j :: js, v :: vs => setAll (σ.set j (some v)) js vs
  | _, _ => σ
def EvG [Tbs] (K : PySem.W.Frag) (g : TG) (d : D) (js : List Nat) (es : List D) : Prop := ∀ (G H : Hp) v σ Q, Ex G H → Rp K G v d → (∀ vs, RpA K G vs es → Q (setAll σ js vs) H) → g v σ H Q
def EvGs [Tbs] (K : PySem.W.Frag) (g : TGs) (ds : List D) (js : List Nat) (es : List D) : Prop := ∀ (G H : Hp) xs σ Q, Ex G H → RpA K G xs ds → (∀ vs, RpA K G vs es → Q (setAll σ js vs) H) → g xs σ H Q
def pick (n : Nat) (b : Nat → Bool) (f : Nat → D) : List D := ((List.range n).filter b).map f
section
variable [Tbs] {K : PySem.W.Frag} {σ : L2.St} {G G0 H0 G1 H : Hp} {ta tb tc te tx : TE} {t u : TT} {x y z v : V} {d d1 d2 d3 : D} {ds es : List D} {as bs : TA} {i j k m : Int} {a b c : Bool} {n : Nat} {Y : Nat → D} {wi : TI} {g : TG} {js : List Nat}
theorem walkD_list {p : Addr} {xs : List V} (h : G p = some (.lst xs)) (r : RpA K G xs ds) : WalkD K (Itl K p) ds.length G (nth ds) where
  goes := fun i H hi e => ⟨xs, xs[i]'(by rw [r.len]; exact hi), .of (e _ _ h), by simp [r.len, hi]⟩
  stops := fun H e => ⟨xs, .of (e _ _ h), by rw [r.len]; exact Nat.le_refl _⟩
  yields := fun i G1 H x H' hi e1 e2 y => by
    obtain ⟨rfl, y⟩ := y
    have hx := y xs (.of (e2 _ _ (e1 _ _ h)))
    obtain ⟨d, hd, rd⟩ := r.get hx
    exact ⟨G1, Step.refl e2, by rw [nth_of hd]; exact rd.ex e1⟩
theorem walkD_tup {p : Addr} {xs : List V} (h : G p = some (.tup xs)) (r : RpA K G xs ds) : WalkD K (Itt K p) ds.length G (nth ds) where
  goes := fun i H hi e => ⟨xs, xs[i]'(by rw [r.len]; exact hi), .of (e _ _ h), by simp [r.len, hi]⟩
  stops := fun H e => ⟨xs, .of (e _ _ h), by rw [r.len]; exact Nat.le_refl _⟩
  yields := fun i G1 H x H' hi e1 e2 y => by
    obtain ⟨rfl, y⟩ := y
    have hx := y xs (.of (e2 _ _ (e1 _ _ h)))
    obtain ⟨d, hd, rd⟩ := r.get hx
    exact ⟨G1, Step.refl e2, by rw [nth_of hd]; exact rd.ex e1⟩
theorem walkD_range {lo : Int} : WalkD K (Itr lo n) n G (fun i => .int (lo + i)) where
  goes := fun i H hi e => hi
  stops := fun H e => Nat.le_refl _
  yields := fun i G1 H x H' hi e1 e2 y => by
    obtain ⟨rfl, rfl⟩ := y
    exact ⟨G1, Step.refl e2, .int _⟩
theorem walkD_enum {p : Addr} {xs : List V} (h : G p = some (.lst xs)) (r : RpA K G xs ds) : WalkD K (Ite K p) ds.length G (fun i => .tup [.int i, nth ds i]) where
  goes := fun i H hi e => ⟨xs, xs[i]'(by rw [r.len]; exact hi), .of (e _ _ h), by simp [r.len, hi]⟩
  stops := fun H e => ⟨xs, .of (e _ _ h), by rw [r.len]; exact Nat.le_refl _⟩
  yields := fun i G1 H x H' hi e1 e2 y => by
    obtain ⟨T, x, rfl, hT, rfl, y⟩ := y
    have hx := y xs (.of (e2 _ _ (e1 _ _ h)))
    obtain ⟨d, hd, rd⟩ := r.get hx
    exact ⟨_, Step.new e2 hT, .tup upd_same (.cons (.int _) (.cons (by rw [nth_of hd]; exact (rd.ex e1).ex (Ex.new (Step.back e2 hT))) .nil))⟩
theorem i_list (h : EvD K te σ G (.lst ds)) : EvI K (iList K te) σ G ds.length (nth ds) := fun H e R q =>
  h H e _ fun v G1 H1 s r => by
    obtain ⟨p, xs, rfl, hs, ha⟩ := r.lst_of
    exact ⟨p, rfl, ⟨xs, .of (s.i _ _ hs)⟩, q _ G1 H1 s (walkD_list hs ha)⟩
theorem i_tup (h : EvD K te σ G (.tup ds)) : EvI K (iTup K te) σ G ds.length (nth ds) := fun H e R q =>
  h H e _ fun v G1 H1 s r => by
    obtain ⟨p, xs, rfl, hs, ha⟩ := r.tup_of
    exact ⟨p, rfl, ⟨xs, .of (s.i _ _ hs)⟩, q _ G1 H1 s (walkD_tup hs ha)⟩
theorem i_enum (h : EvD K te σ G (.lst ds)) : EvI K (iEnum K (tCons te tNil)) σ G ds.length (fun i => .tup [.int i, nth ds i]) := fun H e R q =>
  h H e _ fun v G1 H1 s r => by
    obtain ⟨p, xs, rfl, hs, ha⟩ := r.lst_of
    exact ⟨p, xs, rfl, .of (s.i _ _ hs), q _ G1 H1 s (walkD_enum hs ha)⟩
theorem i_rng1 (h : EvD K te σ G (.int i)) (hb : -1000000 ≤ i ∧ i ≤ 1000000) : EvI K (iRng1 (tCons te tNil)) σ G i.toNat (fun k => .int k) := fun H e R q =>
  h H e _ fun v G1 H1 s r => ⟨i, by rw [r.int_of], by omega, by omega, q _ G1 H1 s (by
    have z : (fun k : Nat => D.int (k : Int)) = fun k : Nat => D.int ((0 : Int) + (k : Int)) := by funext k; rw [Int.zero_add]
    rw [z]
    exact walkD_range)⟩
theorem i_rng2 (h1 : EvD K ta σ G (.int i)) (h2 : EvD K tb σ G (.int j)) (hb : (-1000000 ≤ i ∧ i ≤ 1000000) ∧ -1000000 ≤ j ∧ j ≤ 1000000) : EvI K (iRng2 (tCons ta (tCons tb tNil))) σ G (j - i).toNat (fun k => .int (i + k)) := fun H e R q =>
  h1 H e _ fun v G1 H1 s1 r1 => (h2.mono s1.g) H1 s1.i _ fun w G2 H2 s2 r2 => ⟨i, j, by rw [r1.int_of, r2.int_of], ⟨by omega, by omega, by omega, by omega⟩, q _ G2 H2 (s1.trans s2) walkD_range⟩
theorem g_name {j : Nat} : EvG K (gName j) d [j] [d] := fun G H v σ Q e r q => q [v] (.cons r .nil)
theorem g_nil : EvGs K gNil [] [] [] := fun G H xs σ Q e r q => by
  cases r
  exact ⟨rfl, q [] .nil⟩
theorem setAll_app (σ : L2.St) : ∀ (js ks : List Nat) (us ws : List V), us.length = js.length → setAll σ (js ++ ks) (us ++ ws) = setAll (setAll σ js us) ks ws
  | [], ks, us, ws, h => by
    have z : us = [] := List.length_eq_zero_iff.mp h
    subst z
    rfl
  | j :: js, ks, [], ws, h => by cases h
  | j :: js, ks, u :: us, ws, h => setAll_app (σ.set j (some u)) js ks us ws (Nat.succ.inj h)
theorem g_cons {gs : TGs} {js1 js2 : List Nat} {es1 es2 : List D} (h1 : EvG K g d js1 es1) (h2 : EvGs K gs ds js2 es2) (hl : es1.length = js1.length) : EvGs K (gCons g gs) (d :: ds) (js1 ++ js2) (es1 ++ es2) := fun G H xs σ Q e r q => by
  cases r with
  | cons r1 r2 =>
    refine ⟨_, _, rfl, h1 G H _ σ _ e r1 fun us ru => h2 G H _ _ _ e r2 fun ws rw' => ?_⟩
    rw [← setAll_app σ js1 js2 us ws (by rw [ru.len, hl])]
    exact q _ (ru.app rw')
theorem g_tup {gs : TGs} (h : EvGs K gs ds js es) (hl : ds.length = n) : EvG K (gTup K n gs) (.tup ds) js es := fun G H v σ Q e r q => by
  obtain ⟨a, xs, rfl, hs, ha⟩ := r.tup_of
  exact ⟨a, xs, rfl, .of (e _ _ hs), by rw [ha.len, hl], h G H xs σ Q e ha q⟩
theorem g_two {j1 j2 : Nat} : EvG K (gTup K 2 (gCons (gName j1) (gCons (gName j2) gNil))) (.tup [d1, d2]) [j1, j2] [d1, d2] := g_tup (g_cons g_name (g_cons g_name g_nil rfl) rfl) rfl
theorem g_three {j1 j2 j3 : Nat} : EvG K (gTup K 3 (gCons (gName j1) (gCons (gName j2) (gCons (gName j3) gNil)))) (.tup [d1, d2, d3]) [j1, j2, j3] [d1, d2, d3] := g_tup (g_cons g_name (g_cons g_name (g_cons g_name g_nil rfl) rfl) rfl) rfl

/-! ### comprehensions -/
theorem pick_zero {b : Nat → Bool} {f : Nat → D} : pick 0 b f = [] := rfl
theorem pick_yes {b : Nat → Bool} {f : Nat → D} (h : b n = true) : pick (n + 1) b f = pick n b f ++ [f n] := by
  unfold pick
  rw [List.range_succ, List.filter_append, List.map_append, List.filter_cons, if_pos h] <;> rfl
theorem pick_no {b : Nat → Bool} {f : Nat → D} (h : b n = false) : pick (n + 1) b f = pick n b f := by
  unfold pick
  rw [List.range_succ, List.filter_append, List.map_append, List.filter_cons, if_neg (by rw [h]; decide)]
  show _ ++ [] = _
  rw [List.append_nil]
theorem pick_len (b : Nat → Bool) (f : Nat → D) : (pick n b f).length ≤ n := by
  unfold pick
  rw [List.length_map]
  have h := List.length_filter_le b (List.range n)
  rw [List.length_range] at h
  exact h
theorem f_lc {tt : TT} {vs : List Nat} (E : Nat → List D) (b : Nat → Bool) (f : Nat → D) (hi : EvI K wi σ G n Y) (hg : ∀ i, i < n → EvG K g (Y i) js (E i)) (hz : n ≤ 1000000)
    (hl : ∀ i, i < n → (E i).length = js.length)
    (hw : ∀ us : List V, us.length = js.length → wipe (setAll (wipe σ vs) js us) vs = wipe σ vs)
    (ht : ∀ i, i < n → ∀ G1, Ex G G1 → ∀ us, RpA K G1 us (E i) → EvB tt (setAll (wipe σ vs) js us) G1 (b i))
    (he : ∀ i, i < n → b i = true → ∀ G1, Ex G G1 → ∀ us, RpA K G1 us (E i) → EvD K te (setAll (wipe σ vs) js us) G1 (f i)) : EvF K (tLc wi g tt te vs) σ G (pick n b f) := fun H e Q q =>
  hi H e _ fun J G1 H1 s1 wk Dl hD => by
    refine ⟨fun i m H' => m = n - i ∧ i ≤ n ∧ ∃ G' xs, Step G1 H1 G' H' ∧ G' Dl = none ∧ H' Dl = some (.lst xs) ∧ RpA K G' xs (pick i b f), ⟨n, by omega, Nat.zero_le _, G1, [], Step.own s1.i hD, Step.back s1.i hD, upd_same, .nil⟩, ?_⟩
    rintro i m H' ⟨rfl, hi', G', xs, s2, hD1, hD2, r2⟩
    by_cases hlt : i < n
    · refine .inr ⟨wk.goes i H' hlt (s2.g.trans s2.i), fun H2 => i + 1 ≤ n ∧ ∃ G' xs, Step G1 H1 G' H2 ∧ G' Dl = none ∧ H2 Dl = some (.lst xs) ∧ RpA K G' xs (pick (i + 1) b f), fun H2 p => ⟨n - (i + 1), by omega, rfl, p⟩, fun x H2 y => ?_⟩
      obtain ⟨G2, s3, r3⟩ := wk.yields i G' H' x H2 hlt s2.g s2.i y
      refine hg i hlt G2 H2 x _ _ s3.i r3 fun us ru => ⟨hw us (by rw [ru.len]; exact hl i hlt), ?_⟩
      obtain ⟨g3, k3⟩ := s3.keep hD1 hD2
      have s23 := s2.trans s3
      refine (ht i hlt G2 (s1.g.trans s23.g) us ru) H2 s3.i _ fun G3 H3 s4 => ?_
      obtain ⟨g4, k4⟩ := s4.keep g3 k3
      cases hb : b i with
      | true =>
        show te (setAll (wipe σ vs) js us) H3 _
        refine ((he i hlt hb G2 (s1.g.trans s23.g) us ru).mono s4.g) H3 s4.i _ fun v G4 H4 s5 r5 => ?_
        obtain ⟨g5, k5⟩ := s5.keep g4 k4
        refine ⟨xs, k5, ?_, hlt, G4, xs ++ [v], ((s23.trans s4).trans s5).mut hD g5, g5, upd_same, ?_⟩
        · rw [r2.len]
          have := pick_len (n := i) b f
          rw [sizeLine_eq]
          omega
        · rw [pick_yes hb]
          exact (r2.ex ((s3.g.trans s4.g).trans s5.g)).snoc r5
      | false =>
        exact ⟨hlt, G3, xs, s23.trans s4, g4, k4, by rw [pick_no hb]; exact r2.ex (s3.g.trans s4.g)⟩
    · have z : i = n := by omega
      subst z
      exact .inl ⟨wk.stops H' (s2.g.trans s2.i), q Dl xs G' H' (s1.trans s2) (s1.pre hD) hD1 hD2 r2⟩
theorem b_yes : EvB tYes σ G true := fun H e Q q => q G H (Step.refl e)

/-! ### statements -/
variable {Dn : Ends} {tu tw tz : TS}
theorem s_asg {i : Nat} (e : Ex G H) (h : EvD K te σ G d) (k : ∀ v G1 H1, Step G H G1 H1 → Rp K G1 v d → Dn.nx (σ.set i (some v)) H1) : tAsg te (gName i) Dn σ H := h H e _ fun v G1 H1 s r => k v G1 H1 s r
theorem q_asg {i : Nat} (e : Ex G H) (h : EvD K te σ G d) (k : ∀ v G1 H1, Step G H G1 H1 → Rp K G1 v d → tz Dn (σ.set i (some v)) H1) : tSeq (tAsg te (gName i)) tz Dn σ H := h H e _ fun v G1 H1 s r => k v G1 H1 s r
theorem q_asgF {i : Nat} (e : Ex G H) (h : EvF K te σ G ds) (k : ∀ p xs G1 H1, Step G H G1 H1 → H p = none → G1 p = none → H1 p = some (.lst xs) → RpA K G1 xs ds → tz Dn (σ.set i (some (.ref p))) H1) : tSeq (tAsg te (gName i)) tz Dn σ H := h H e _ fun p xs G1 H1 s h1 h2 h3 r => k p xs G1 H1 s h1 h2 h3 r
theorem q_asgT (e : Ex G H) (h : EvD K te σ G d) (hg : EvG K g d js es) (k : ∀ vs G1 H1, Step G H G1 H1 → RpA K G1 vs es → tz Dn (setAll σ js vs) H1) : tSeq (tAsg te g) tz Dn σ H := h H e _ fun v G1 H1 s r => hg G1 H1 v σ _ s.i r fun vs rv => k vs G1 H1 s rv
theorem s_asgT (e : Ex G H) (h : EvD K te σ G d) (hg : EvG K g d js es) (k : ∀ vs G1 H1, Step G H G1 H1 → RpA K G1 vs es → Dn.nx (setAll σ js vs) H1) : tAsg te g Dn σ H := h H e _ fun v G1 H1 s r => hg G1 H1 v σ _ s.i r fun vs rv => k vs G1 H1 s rv
theorem s_ret (e : Ex G H) (h : EvD K te σ G d) (k : ∀ v G1 H1, Step G H G1 H1 → Rp K G1 v d → Dn.rt v H1) : tRet te Dn σ H := h H e _ fun v G1 H1 s r => k v G1 H1 s r
theorem s_retF (e : Ex G H) (h : EvF K te σ G ds) (k : ∀ p xs G1 H1, Step G H G1 H1 → H p = none → G1 p = none → H1 p = some (.lst xs) → RpA K G1 xs ds → Dn.rt (.ref p) H1) : tRet te Dn σ H := h H e _ fun p xs G1 H1 s h1 h2 h3 r => k p xs G1 H1 s h1 h2 h3 r
theorem s_if (e : Ex G H) (h : EvB t σ G b) (h1 : b = true → ∀ G1 H1, Step G H G1 H1 → tu Dn σ H1) (h2 : b = false → ∀ G1 H1, Step G H G1 H1 → tw Dn σ H1) : tIfS t tu tw Dn σ H := h H e _ fun G1 H1 s => by
  cases b with
  | true => exact h1 rfl G1 H1 s
  | false => exact h2 rfl G1 H1 s
theorem q_if (e : Ex G H) (h : EvB t σ G b) (h1 : b = true → ∀ G1 H1, Step G H G1 H1 → tu { Dn with nx := tz Dn } σ H1) (h2 : b = false → ∀ G1 H1, Step G H G1 H1 → tw { Dn with nx := tz Dn } σ H1) : tSeq (tIfS t tu tw) tz Dn σ H := s_if (Dn := { Dn with nx := tz Dn }) e h h1 h2
/-- an if whose way is not taken -/
theorem q_no (e : Ex G H) (h : EvB t σ G false) (k : ∀ G1 H1, Step G H G1 H1 → tz Dn σ H1) : tSeq (tIfS t tu tNext) tz Dn σ H := q_if e h (fun z => nomatch z) (fun _ => k)
theorem q_drop (e : Ex G H) (h : EvD K te σ G d) (k : ∀ G1 H1, Step G H G1 H1 → tz Dn σ H1) : tSeq (tDrop te) tz Dn σ H := h H e _ fun v G1 H1 s r => k G1 H1 s
theorem s_drop (e : Ex G H) (h : EvD K te σ G d) (k : ∀ G1 H1, Step G H G1 H1 → Dn.nx σ H1) : tDrop te Dn σ H := h H e _ fun v G1 H1 s r => k G1 H1 s
/-- p.append(e), p an own list in slot i -/
theorem q_app {i : Nat} {p : Addr} {xs : List V} (e : Ex G H) (hp : G p = none) (hx : H p = some (.lst xs)) (hi : σ[i]? = some (some (.ref p))) (h : EvD K te σ G d) (hz : xs.length < 100000)
    (k : ∀ v G1 H1, Step G H G1 H1 → G1 p = none → Rp K G1 v d → tz Dn σ (upd H1 p (.lst (xs ++ [v])))) : tSeq (tDrop (tBM K "list" rAppend (tVar i) (tCons te tNil))) tz Dn σ H :=
  ⟨_, hi, Or.inl ⟨rfl, xs, .of hx⟩, h H e _ fun v G1 H1 s r => ⟨p, xs, v, rfl, rfl, s.h p _ hx, sz_lt hz, k v G1 H1 s (s.keep hp hx).1 r⟩⟩
theorem s_app {i : Nat} {p : Addr} {xs : List V} (e : Ex G H) (hp : G p = none) (hx : H p = some (.lst xs)) (hi : σ[i]? = some (some (.ref p))) (h : EvD K te σ G d) (hz : xs.length < 100000)
    (k : ∀ v G1 H1, Step G H G1 H1 → G1 p = none → Rp K G1 v d → Dn.nx σ (upd H1 p (.lst (xs ++ [v])))) : tDrop (tBM K "list" rAppend (tVar i) (tCons te tNil)) Dn σ H :=
  ⟨_, hi, Or.inl ⟨rfl, xs, .of hx⟩, h H e _ fun v G1 H1 s r => ⟨p, xs, v, rfl, rfl, s.h p _ hx, sz_lt hz, k v G1 H1 s (s.keep hp hx).1 r⟩⟩
/-- p.extend(e) -/
theorem s_ext {i : Nat} {p : Addr} {xs : List V} (e : Ex G H) (hp : G p = none) (hx : H p = some (.lst xs)) (hi : σ[i]? = some (some (.ref p))) (h : EvD K te σ G (.lst ds)) (hz : xs.length + ds.length ≤ 100000)
    (k : ∀ ys G1 H1, Step G H G1 H1 → G1 p = none → RpA K G1 ys ds → Dn.nx σ (upd H1 p (.lst (xs ++ ys)))) : tDrop (tBM K "list" rExtend (tVar i) (tCons te tNil)) Dn σ H :=
  ⟨_, hi, Or.inl ⟨rfl, xs, .of hx⟩, h H e _ fun v G1 H1 s r => by
    obtain ⟨q, ys, rfl, hs, ha⟩ := r.lst_of
    exact ⟨p, q, xs, ys, rfl, rfl, s.h p _ hx, s.i _ _ hs, by rw [ha.len]; exact sz_of hz, k ys G1 H1 s (s.keep hp hx).1 ha⟩⟩
theorem q_ext {i : Nat} {p : Addr} {xs : List V} (e : Ex G H) (hp : G p = none) (hx : H p = some (.lst xs)) (hi : σ[i]? = some (some (.ref p))) (h : EvD K te σ G (.lst ds)) (hz : xs.length + ds.length ≤ 100000)
    (k : ∀ ys G1 H1, Step G H G1 H1 → G1 p = none → RpA K G1 ys ds → tz Dn σ (upd H1 p (.lst (xs ++ ys)))) : tSeq (tDrop (tBM K "list" rExtend (tVar i) (tCons te tNil))) tz Dn σ H := s_ext (Dn := { Dn with nx := tz Dn }) e hp hx hi h hz k
/-- a for: Pv of the turn, the slots, the part that stays, the heap -/
theorem s_for {E : Nat → List D} (S : Step G0 H0 G H) (hi : EvI K wi σ G n Y) (hg : ∀ i, i < n → EvG K g (Y i) js (E i)) (Pv : Nat → L2.St → Hp → Hp → Prop)
    (h0 : ∀ G1 H1, Step G H G1 H1 → Pv 0 σ G1 H1)
    (hs : ∀ Gw, Ex G Gw → ∀ i, i < n → ∀ σ' G' H', Step G0 H0 G' H' → Ex Gw G' → Pv i σ' G' H' → ∀ G2 H2 us, Step G' H' G2 H2 → RpA K G2 us (E i) →
      tu { Dn with nx := fun σ2 H3 => ∃ G3, Step G0 H0 G3 H3 ∧ Ex Gw G3 ∧ Pv (i + 1) σ2 G3 H3, ct := fun σ2 H3 => ∃ G3, Step G0 H0 G3 H3 ∧ Ex Gw G3 ∧ Pv (i + 1) σ2 G3 H3, bk := Dn.nx } (setAll σ' js us) H2)
    (hd : ∀ σ' G' H', Step G0 H0 G' H' → Ex G G' → Pv n σ' G' H' → Dn.nx σ' H') : tFor wi g tu Dn σ H :=
  hi H S.i _ fun J G1 H1 s1 wk => by
    refine ⟨fun i m σ' H' => m = n - i ∧ i ≤ n ∧ ∃ G', Step G0 H0 G' H' ∧ Ex G1 G' ∧ Pv i σ' G' H', ⟨n, by omega, Nat.zero_le _, G1, S.trans s1, Ex.refl _, h0 G1 H1 s1⟩, ?_⟩
    rintro i m σ' H' ⟨rfl, hi', G', s2, e2, p⟩
    by_cases hlt : i < n
    · refine .inr ⟨wk.goes i H' hlt (e2.trans s2.i), fun σ2 H3 => ∃ G3, Step G0 H0 G3 H3 ∧ Ex G1 G3 ∧ Pv (i + 1) σ2 G3 H3, fun σ2 H3 q => ⟨n - (i + 1), by omega, rfl, hlt, q⟩, fun x H2 y => ?_⟩
      obtain ⟨G2, s3, r3⟩ := wk.yields i G' H' x H2 hlt e2 s2.i y
      exact hg i hlt G2 H2 x _ _ s3.i r3 fun us ru => hs G1 s1.g i hlt σ' G' H' s2 e2 p G2 H2 us s3 ru
    · have z : i = n := by omega
      subst z
      exact .inl ⟨wk.stops H' (e2.trans s2.i), hd σ' G' H' s2 (s1.g.trans e2) p⟩
theorem q_for {E : Nat → List D} (S : Step G0 H0 G H) (hi : EvI K wi σ G n Y) (hg : ∀ i, i < n → EvG K g (Y i) js (E i)) (Pv : Nat → L2.St → Hp → Hp → Prop)
    (h0 : ∀ G1 H1, Step G H G1 H1 → Pv 0 σ G1 H1)
    (hs : ∀ Gw, Ex G Gw → ∀ i, i < n → ∀ σ' G' H', Step G0 H0 G' H' → Ex Gw G' → Pv i σ' G' H' → ∀ G2 H2 us, Step G' H' G2 H2 → RpA K G2 us (E i) →
      tu { Dn with nx := fun σ2 H3 => ∃ G3, Step G0 H0 G3 H3 ∧ Ex Gw G3 ∧ Pv (i + 1) σ2 G3 H3, ct := fun σ2 H3 => ∃ G3, Step G0 H0 G3 H3 ∧ Ex Gw G3 ∧ Pv (i + 1) σ2 G3 H3, bk := tz Dn } (setAll σ' js us) H2)
    (hd : ∀ σ' G' H', Step G0 H0 G' H' → Ex G G' → Pv n σ' G' H' → tz Dn σ' H') : tSeq (tFor wi g tu) tz Dn σ H := s_for (Dn := { Dn with nx := tz Dn }) S hi hg Pv h0 hs hd
end
end J

/-! New rules over the hand layer: enumerate(tuple). -/
namespace PySem
open Sem (wp)
open AutoSeq1 (wpAny_loadPart')
theorem j_enum_new1 {v : Value} {o : Obj} {H : Heap → Prop} (B : Begins v o H) :
    Meets (Builtin.«enumerate.__new__» ⟨[.type "enumerate", v], []⟩) (fun _ R s => H s.heap ∧
      R (.ok (.ret (.ref (s.heap.push o).objs.size))) { s with heap := (s.heap.push o).push { cls := .type "enumerate", data := .fields #[.none, .bool false, .ref s.heap.objs.size, rawInt 0, .none, .none] } }) :=
  .of_wp fun prog w A R s h => by
    obtain ⟨hp, g, d, tk, os⟩ := s; obtain ⟨h1, h⟩ := h
    have hsub := sub_enumerate
    have q1 : ∀ {A' : Around} {E : Value → Shared → Prop} {Q : Value → Shared → Prop}, Q (.ref hp.objs.size) ⟨hp.push o, g, d, tk, os⟩ → wpAny (model prog w) A' (pyIter v) Q E ⟨hp, g, d, tk, os⟩ :=
      fun q => B.iter prog w _ _ ⟨hp, g, d, tk, os⟩ _ h1 q
    wp_walk using q1
    refine wpAny_stack_any fun st => wpAny_pure ?_
    split
    · rename_i c _ _ _ _ _
      cases (c == Value.type "enumerate")
      · wp_walk using q1
        exact ⟨_, rfl, h⟩
      · wp_walk using q1
        exact ⟨_, rfl, h⟩
    · wp_walk using q1
      exact ⟨_, rfl, h⟩
theorem j_enum_begins {prog : Program} {w : World} {A : Around} {E : Value → Shared → Prop} {s : Shared} {v : Value} {o : Obj} {H : Heap → Prop} {Q : Value → Shared → Prop} (B : Begins v o H) (h1 : H s.heap)
    (h : ∀ h', IsEnum h' (s.heap.objs.size + 1) s.heap.objs.size 0 .none → h'.get? s.heap.objs.size = some o → h'.objs.size = s.heap.objs.size + 2 →
      (∀ b o, s.heap.get? b = some o → h'.get? b = some o) → Q (.ref (s.heap.objs.size + 1)) { s with heap := h' }) :
    wpAny (model prog w) A (call (.type "enumerate") [v]) Q E s := by
  refine callType_new F.called_enumerate (by decide) (F.typeCall_enumerate_1 _) (F.newCall_enumerate_1 _) (fun obj => F.args_object_init_2 obj _) F.entry_enumerate_new
    (j_enum_new1 B) ⟨h1, ?_⟩
  have hz : (s.heap.push o).objs.size = s.heap.objs.size + 1 := Heap.size_push ..
  show _ ∧ _
  rw [hz]
  have he : IsEnum ((s.heap.push o).push { cls := .type "enumerate", data := .fields #[.none, .bool false, .ref s.heap.objs.size, rawInt 0, .none, .none] }) (s.heap.objs.size + 1) s.heap.objs.size 0 .none := by
    have := Heap.get?_push_size (s.heap.push o) (o := { cls := .type "enumerate", data := .fields #[.none, .bool false, .ref s.heap.objs.size, rawInt 0, .none, .none] }) rfl
    rw [hz] at this; exact this
  refine ⟨⟨_, he, rfl⟩, h _ he (Heap.get?_push_of_some _ (Heap.get?_push_size _ B.free)) (by rw [Heap.size_push, hz]) fun b o x => Heap.get?_push_of_some _ (Heap.get?_push_of_some _ x)⟩
end PySem

namespace J
open PySem L2 PyProof.Rows
/-- enumerate(tuple): the tuple at a, each item in a new pair -/
def Iet (K : PySem.W.Frag) (a : Addr) : It :=
  ⟨fun i H => ∃ (xs : List V) (x : V), SqT K H a xs ∧ xs[i]? = some x, fun i H v H' => ∃ T x, v = .ref T ∧ H T = none ∧ H' = upd H T (.tup [.int (i : Nat), x]) ∧ ∀ xs, SqT K H a xs → xs[i]? = some x, fun i H => ∃ xs : List V, SqT K H a xs ∧ xs.length ≤ i⟩
theorem turn_enumT {P : Program} {w : World} {K : PySem.W.Frag} {elts : List Expr} {kk : Nat} {tpos : Pos} (a e it : Addr) (hai : a ≠ it) :
    Turn P w K (.Tuple elts kk tpos) (Iet K a) [e, it] e (fun i h => (∃ old, IsEnum h e it ((i : Nat) : Int) old) ∧ h.IsTupleIter it a i ∧ e ≠ it ∧ e ≠ a) where
  mem := by simp
  obj := fun i h st b hb => by
    obtain ⟨⟨old, he⟩, ⟨o, ho, hc, hd⟩, _⟩ := st
    have e' : b = e ∨ b = it := by simpa using hb
    rcases e' with z | z
    · rw [z]; exact ⟨_, he, fun v q => nomatch q⟩
    · rw [z]; exact ⟨o, ho, fun v q => by rw [hd] at q; cases q⟩
  keep := fun i h h' st k => let ⟨⟨old, he⟩, hi, hne⟩ := st; ⟨⟨old, k e (by simp) _ he⟩, hi.at fun o q => k it (by simp) o q, hne⟩
  item := by
    intro X hP hw hK hc i pins s σ H E I hf st hg
    subst hP hw hK
    obtain ⟨⟨old, he⟩, hit, hne, hea⟩ := st
    obtain ⟨xs, x, hq, hx⟩ := hg
    obtain ⟨its, rv, p, hz⟩ := I.tuple hq
    obtain ⟨u, hu, ru⟩ := rv.get hx
    have hel : e < s.heap.objs.size := Heap.lt_size he
    have hil : it < s.heap.objs.size := by obtain ⟨_, q, _⟩ := hit; exact Heap.lt_size q
    have hlt : i < its.toArray.size := by
      have := (List.getElem?_eq_some_iff.mp hu).1
      simpa using this
    refine wpAny_pyNext_enum_itemD (Draws.tuple (A := X.A.in1) (show X.A.in1.handled = none from I.ok.hd hc) it a hai its.toArray) he ⟨hit, p⟩ hlt hne (by simp [hne, hea]) fun x' h' tk hP' ho hst' hT hsz hk => ?_
    have hxu : x' = u := by
      have q : its.toArray[i]? = some u := by simpa using hu
      have q2 : its.toArray[i]? = some x' := hP'
      rw [q] at q2
      exact (Option.some.inj q2).symm
    subst hxu
    refine ⟨_, rfl, wpAny_letOwnedTupleGo_enum (s := { s with heap := h', toks := tk + 1 }) ho fun h'' he' sb => ?_⟩
    have hT2 : h''.get? s.heap.objs.size = some { cls := .type "tuple", data := .seq #[.int i tk, x'] } := (sb.2 _ (Nat.ne_of_gt hel)).trans hT
    have new : ObjOk X.prog X.w (upd H s.heap.objs.size (.tup [.int (i : Nat), x])) h'' s.heap.objs.size (.tup [.int (i : Nat), x]) :=
      ⟨by show 2 ≤ sizeLine; decide, [.int i tk, x'], .cons ⟨_, rfl⟩ (.cons ru .nil), ⟨_, hT2, rfl, _, rfl⟩⟩
    have I1 : Inv X pins σ (upd H s.heap.objs.size (.tup [.int (i : Nat), x])) { s with heap := h'', toks := tk + 1 } :=
      I.turnedNew (ch := [e, it]) (fun b ob hb q => (sb.2 b (fun z => hb (by simp [z]))).trans (hk b ob (fun z => hb (by simp [z])) (fun z => hb (by simp [z])) q)) hf (Nat.le_refl _) new
    refine ⟨.ref s.heap.objs.size, _, I1, rfl, ⟨_, x, rfl, I.hok.fresh (Nat.le_refl _), rfl, fun ys hy => by rw [I.tuple_inj hy hq]; exact hx⟩, ⟨⟨x', ?_⟩, hst'.1.at fun o q => (sb.2 it (Ne.symm hne)).trans q, hne, hea⟩, fun b hb => ?_⟩
    · have e1 : ((i + 1 : Nat) : Int) = (i : Int) + 1 := by omega
      rw [e1]; exact he'
    · have hb' : b < s.heap.objs.size := by
        have e' : b = e ∨ b = it := by simpa using hb
        rcases e' with z | z
        · rw [z]; exact hel
        · rw [z]; exact hil
      rw [upd_ne (Nat.ne_of_lt hb')]
      exact (hf b hb).1
  done := by
    intro X hP hw hK hc i pins s σ H E I hf st hg
    subst hP hw hK
    obtain ⟨⟨old, he⟩, hit, hne, hea⟩ := st
    obtain ⟨xs, hq, hx⟩ := hg
    obtain ⟨its, rv, p, hz⟩ := I.tuple hq
    obtain ⟨f0, f1, f2, f3, f4, f5⟩ := hf it (by simp)
    have hl := rv.length
    have hh : X.A.in1.handled = none := I.ok.hd hc
    have hT : s.TypeIs (.ref e) "enumerate" := ⟨_, he, rfl⟩
    unfold pyNext
    refine wpAny_bind (wpAny_attempt (wpAny_callSpecial?_slot (name := Str.ofString "__next__") hT F.slot_enumerate_next
      (wpAny_call_entry F.slot_enumerate_next hT F.entry_enumerate_next ?_ (F.args_enumerate_next_1 _))))
    show wpAny _ _ (field (.ref e) 2 >>= _) _ _ _
    refine wpAny_bind (wpAny_field he rfl (x := .ref it) rfl ?_)
    refine wpAny_bind (wpAny_nextOf_tuple_end hh hit (show s.heap.IsTuple a its.toArray from p) (by simp; omega) fun h' x he' hx' => ?_)
    obtain ⟨o, ho, hc⟩ := hx'
    refine wpAny_bind (wpAny_isInstance (T := "StopIteration") (b := true) ⟨o, ho, hc⟩ isSubtype_stop ?_)
    exact wpAny_pure ⟨rfl, I.turned (t' := s.toks) (fun b o hb q => he' b o hb q) f0 f1 f3 f4 f5⟩
  self := fun A i s Q E st h => let ⟨⟨_, he⟩, _⟩ := st; wpAny_pyIter_enum he h
def iEnumT (K : PySem.W.Frag) (ta : TA) : TI := fun σ H R => ta σ H fun vs H1 => ∃ a xs, vs = [.ref a] ∧ SqT K H1 a xs ∧ R (Iet K a) H1
theorem pi_enumT {X : Cx} {e : Expr} {ta : TA} {p pos tpos : Pos} {elts : List Expr} {kk : Nat} (hg : Gl X "enumerate") (hm : X.mg "enumerate" = none) (ha : PA X [e] ta) (hs : starEach [e] X.env = [(false, eval e X.env)] := by rfl) :
    PI X (.Tuple elts kk tpos) (.Call (.Name "enumerate" p) [e] [] pos) (iEnumT X.K ta) := by
  refine ⟨fun pins s σ H R I h => ?_⟩
  refine Call_ (ld_blt I hg hm boot_enumerate (PyProof.Rows.callWith_type1 (thn (ha.run pos pins s σ H _ I h) fun us s1 ⟨vs, H1, I1, r1, q1⟩ => ?_) hs rfl))
  obtain ⟨a, xs, ex, hq, q⟩ := q1
  subst ex
  cases r1 with
  | cons r rr =>
    cases rr
    cases r
    obtain ⟨its, rv, p', hz⟩ := I1.tuple hq
    have hal : a < s1.heap.objs.size := by obtain ⟨o, ho, _⟩ := p'; exact Heap.lt_size ho
    refine j_enum_begins (begins_tuple a its.toArray) p' fun h' he hit hsz hk => wpAny_pyIter_enum he ?_
    have I2 : Inv X pins σ H1 { s1 with heap := h' } := I1.kept (t' := s1.toks) hk
    refine ⟨s1.heap.objs.size + 1, [s1.heap.objs.size + 1, s1.heap.objs.size], _, _, H1, rfl, I2, turn_enumT a (s1.heap.objs.size + 1) s1.heap.objs.size (Nat.ne_of_lt hal), ⟨⟨.none, he⟩, ⟨_, hit, rfl, rfl⟩, Nat.succ_ne_self _, Nat.ne_of_gt (Nat.lt_succ_of_lt hal)⟩, fun b hb => ?_, q⟩
    have e' : b = s1.heap.objs.size + 1 ∨ b = s1.heap.objs.size := by simpa using hb
    have hle : s1.heap.objs.size ≤ b := by
      rcases e' with z | z
      · rw [z]; exact Nat.le_add_right _ _
      · rw [z]; exact Nat.le_refl _
    exact I1.fpOk hle (I1.hok.fresh hle)

/-! ### dict(pairs), the keys tuples -/
def mergeT (kvs more : List (List Key × V)) : List (List Key × V) := more.foldl (fun acc kv => putK acc kv.1 kv.2) kvs
theorem length_mergeT : ∀ (more kvs : List (List Key × V)), (mergeT kvs more).length ≤ kvs.length + more.length
  | [], kvs => Nat.le_refl _
  | m :: more, kvs => by
    have h := length_mergeT more (putK kvs m.1 m.2)
    have h2 := length_putK kvs m.1 m.2
    show (mergeT (putK kvs m.1 m.2) more).length ≤ kvs.length + (more.length + 1)
    omega
theorem KT.merge {H : Hp} : ∀ {ts : List (List Key × Addr × V)} {ps : List (List Key × Addr × Value)} {kvs : List (List Key × V)} {xs : List (List Key × Addr × Value)},
    Paired (fun (t : List Key × Addr × V) (p : List Key × Addr × Value) => t.1 = p.1 ∧ t.2.1 = p.2.1 ∧ RelV t.2.2 p.2.2 ∧ H t.2.1 = some (.tup (t.1.map kV))) ts ps → KT H kvs xs →
    KT H (mergeT kvs (ts.map fun t => (t.1, t.2.2))) (storedAllH xs ps)
  | [], _, _, _, h, r => by cases h; exact r
  | t :: ts, _, kvs, xs, h, r => by
    cases h with
    | @cons _ p _ ps h1 h2 =>
      obtain ⟨e1, e2, r1, hb⟩ := h1
      have q := KT.put r t.1 (b := p.2.1) (by rw [← e2]; exact hb) r1
      have z : storedAllH xs (p :: ps) = storedAllH (storedH xs t.1 p.2.1 p.2.2) ps := by rw [e1]; rfl
      rw [z]
      exact KT.merge (ts := ts) (kvs := putK kvs t.1 t.2.2) h2 q
theorem pairs_ofT {X : Cx} {pins : List (Addr × Obj)} {σ : L2.St} {H : Hp} {s : Shared} (I : Inv X pins σ H s) : ∀ {ps : List Addr} {ts : List (List Key × Addr × V)}, Paired (fun p (t : List Key × Addr × V) => H p = some (.tup [.ref t.2.1, t.2.2]) ∧ H t.2.1 = some (.tup (t.1.map kV))) ps ts →
    ∃ qs : List (List Key × Addr × Value), Paired (fun (t : List Key × Addr × V) (p : List Key × Addr × Value) => t.1 = p.1 ∧ t.2.1 = p.2.1 ∧ RelV t.2.2 p.2.2 ∧ H t.2.1 = some (.tup (t.1.map kV))) ts qs ∧ qs.length = ps.length ∧
      ∀ (j : Nat) (q : List Key × Addr × Value), qs[j]? = some q → ∃ b : Addr, ps[j]? = some b ∧ IsTup s.heap b #[.ref q.2.1, q.2.2] ∧ (tupleKind (mixKind X.prog X.w)).is s.heap q.1 q.2.1
  | _, _, .nil => ⟨[], .nil, rfl, fun j q e => by simp at e⟩
  | _, _, .cons (a := p) (b := t) h tl => by
    obtain ⟨qs, r, hl, hp⟩ := pairs_ofT I tl
    obtain ⟨its, rv, ht, _⟩ := I.tuple (SqT.of h.1)
    obtain ⟨u, y, ei, ru, ry⟩ := vals2 rv
    subst ei
    cases ru
    refine ⟨(t.1, t.2.1, y) :: qs, .cons ⟨rfl, rfl, ry, h.2⟩ r, by rw [List.length_cons, List.length_cons, hl], fun j q e => ?_⟩
    cases j with
    | zero =>
      have e' : (t.1, t.2.1, y) = q := Option.some.inj e
      subst e'
      exact ⟨p, rfl, ht, key_of I.hok h.2⟩
    | succ j =>
      obtain ⟨b, e1, e2, e3⟩ := hp j q (by simpa using e)
      exact ⟨b, by simpa using e1, e2, e3⟩
def rDictT (K : PySem.W.Frag) : List V → Hp → VK → Prop := fun xs H Q => ∃ (a : Addr) (ps : List Addr) (ts : List (List Key × Addr × V)), xs = [.ref a] ∧ H a = some (.lst (ps.map V.ref)) ∧
    Paired (fun p (t : List Key × Addr × V) => H p = some (.tup [.ref t.2.1, t.2.2]) ∧ H t.2.1 = some (.tup (t.1.map kV))) ps ts ∧
    ∀ p, H p = none → Q (.ref p) (upd H p (.dT (mergeT [] (ts.map fun t => (t.1, t.2.2)))))
theorem call_dictT {X : Cx} (hcalm : X.calm = true) (hu : X.A.units + 64 < cLine) : CallR X (.type "dict") (rDictT X.K) := by
  intro pins s σ H xs us Q I r q
  obtain ⟨a, ps, ts, ex, hq, hp, q⟩ := q
  subst ex
  obtain ⟨u, eu, rx⟩ := vals1 r
  subst eu
  cases rx
  obtain ⟨hz, its, n, rv, hlen, ho⟩ := I.lstM hq
  have ei := refs_at rv
  subst ei
  rw [List.length_map] at hz
  obtain ⟨qs, rel, hl, hpr⟩ := pairs_ofT I hp
  have hall : ∀ x ∈ qs, (tupleKind (mixKind X.prog X.w)).is s.heap x.1 x.2.1 := fun x hx => by
    obtain ⟨j, hj⟩ := List.getElem?_of_mem hx
    exact (hpr j x hj).choose_spec.2.2
  refine call_dict_pairsH (knd := tupleKind (mixKind X.prog X.w)) (n := (qs.map fun p => (Value.ref p.2.1, p.2.2)).length) (ps := qs)
    (PairArg.list a (ps.map Value.ref).toArray (fun j => ps.getD j 0) (qs.map fun p => (Value.ref p.2.1, p.2.2))) (I.ok.hd hcalm) ?hu ?ok ?hc ?st ?sz ?fin
  case hu =>
    show X.A.in1.in1.units < cLine
    have z : X.A.in1.in1.units = X.A.units + 1 + 1 := rfl
    rw [z]
    omega
  case ok =>
    refine ⟨⟨_, n, ho, rfl, rfl, rfl⟩, by simp [hl], fun j k v e => ?_⟩
    rw [List.getElem?_map] at e
    cases e1 : qs[j]? with
    | none => rw [e1] at e; cases e
    | some x =>
      rw [e1] at e
      cases Option.some.inj e
      obtain ⟨b, hb, ht, _⟩ := hpr j x e1
      have hg : ps.getD j 0 = b := by rw [List.getD_eq_getElem?_getD, hb]; rfl
      show (ps.map Value.ref).toArray[j]? = some (Value.ref (ps.getD j 0)) ∧ PairAt s.heap (ps.getD j 0) (Value.ref x.2.1) x.2.2
      rw [hg]
      exact ⟨by simp [hb], .inl ht⟩
  case hc =>
    refine ⟨by simp, fun i key v e => ?_⟩
    have e : (qs.map fun p => (Value.ref p.2.1, p.2.2))[i]? = some (key, v) := e
    rw [List.getElem?_map] at e
    cases e1 : qs[i]? with
    | none => rw [e1] at e; cases e
    | some x =>
      rw [e1] at e
      cases Option.some.inj e
      exact ⟨x.1, x.2.1, by first | exact e1 | rfl, rfl⟩
  case st =>
    intro h' k x hx
    have st : (tupleKind (mixKind X.prog X.w)).Stays := tupleKind_stays
    exact st.stays (fun b o vs n eb _ => k b o (Nat.ne_of_lt (Heap.lt_size eb)) (fun z => nomatch z) eb) (hall x hx)
  case sz =>
    rw [List.length_map, hl]; exact hz
  case fin =>
    intro h' tk hd' k
    have hm : (s.heap.objs.size == sysModules) = false := beq_eq_false_iff_ne.mpr (Nat.ne_of_gt I.big)
    have hts : ts.length = qs.length := Paired.length rel
    have hlen : (mergeT [] (ts.map fun t => (t.1, t.2.2))).length ≤ sizeLine := by
      refine Nat.le_trans (length_mergeT _ []) ?_
      rw [List.length_nil, Nat.zero_add, List.length_map, hts, hl]
      exact hz
    obtain ⟨o, es, ep, hq', h2, h3, h4, _, h5⟩ := hd'
    have kt : KT H (mergeT [] (ts.map fun t => (t.1, t.2.2))) (storedAllH [] qs) := KT.merge rel .nil
    refine ⟨.ref s.heap.objs.size, upd H s.heap.objs.size (.dT (mergeT [] (ts.map fun t => (t.1, t.2.2)))), I.laid (t' := tk) (fun b o e => k b o (fun z => nomatch z) e) (Nat.le_refl _) ⟨hlen, hm, _, kt.keeps fun c ys ec => ?_, o, es, ep, hq', h2, h3, h4, h5⟩, rfl, q _ (I.hok.fresh (Nat.le_refl _))⟩
    rw [upd_ne (ne_of_none ec (I.hok.fresh (Nat.le_refl _)))]
    exact ec

/-! ### sorted(d), d a dict whose keys are pairs of ints -/
abbrev lexB := SrtO.lexB
def kOf (H : Hp) : V → Int × Int
  | .ref a => match H a with
    | some (.tup [.int i, .int j]) => (i, j)
    | _ => (0, 0)
  | _ => (0, 0)
theorem kOf_ref {H : Hp} {a : Addr} {i j : Int} (h : H a = some (.tup [.int i, .int j])) : kOf H (.ref a) = (i, j) := by
  show (match H a with | some (.tup [.int i, .int j]) => (i, j) | _ => (0, 0)) = (i, j)
  rw [h]
def pairK (p : Int × Int) : List Key := [.inl p.1, .inl p.2]
def rSortedDT : List V → Hp → VK → Prop := fun xs H Q => ∃ (d : Addr) (kvs : List (List Key × V)) (ks : List (Int × Int)), xs = [.ref d] ∧ H d = some (.dT kvs) ∧ kvs.map (·.1) = ks.map pairK ∧
  ∀ (p : Addr) (zs : List (Addr × Int × Int)), H p = none → SrtO.Srtd lexB (zs.map (·.2)) → SrtO.Stb lexB (zs.map (·.2)) ks → (∀ z ∈ zs, H z.1 = some (.tup [.int z.2.1, .int z.2.2])) → Q (.ref p) (upd H p (.lst (zs.map fun z => V.ref z.1)))
theorem cr_sortedDT {X : Cx} (hc : X.calm = true) : CallR X (.builtin "sorted") rSortedDT := by
  intro pins s σ H xs us Q I r h
  obtain ⟨d, kvs, ks, rfl, hd, hks, q⟩ := h
  obtain ⟨u, rfl, rx⟩ := vals1 r
  cases rx
  obtain ⟨z, hs, xs', pr, o, es, ep, ho, hx, hdt, he, hn⟩ := (show ObjOk X.prog X.w H s.heap d (.dT kvs) from I.hok d _ hd)
  have l1 : es.size = xs'.length := size_of_entries he
  have l2 : kvs.length = xs'.length := Paired.length pr
  -- the keys' addresses
  have hk : ∀ x ∈ xs', ∃ k ∈ ks, H x.2.1 = some (.tup [.int k.1, .int k.2]) := by
    intro x hx'
    obtain ⟨j, hj⟩ := List.getElem?_of_mem hx'
    obtain ⟨e0, he0, r1, r2, r3⟩ := L2.DX.pget pr hj
    have e1 : (kvs.map (·.1))[j]? = some e0.1 := by rw [List.getElem?_map, he0]; rfl
    rw [hks, List.getElem?_map] at e1
    cases hkj : ks[j]? with
    | none => rw [hkj] at e1; cases e1
    | some k =>
      rw [hkj] at e1
      have e2 : pairK k = e0.1 := Option.some.inj e1
      refine ⟨k, List.mem_of_getElem? hkj, ?_⟩
      rw [r2, ← e2]
      rfl
  have hkl : xs'.map (fun x => kOf H (.ref x.2.1)) = ks := by
    have e1 : kvs.map (fun kv => kv.1) = xs'.map (fun x => x.1) := by
      clear hks hk l1 l2 he hn q hd r z
      induction pr with
      | nil => rfl
      | cons h t ih => rw [List.map_cons, List.map_cons, h.1, ih]
    have e2 : xs'.map (fun x => x.1) = ks.map pairK := by rw [← e1]; exact hks
    apply List.ext_getElem?
    intro j
    rw [List.getElem?_map]
    have e3 : (xs'.map (fun x => x.1))[j]? = (ks.map pairK)[j]? := by rw [e2]
    rw [List.getElem?_map, List.getElem?_map] at e3
    cases hj : xs'[j]? with
    | none =>
      rw [hj] at e3
      cases hkj : ks[j]? with
      | none => rfl
      | some k => rw [hkj] at e3; cases e3
    | some x =>
      rw [hj] at e3
      cases hkj : ks[j]? with
      | none => rw [hkj] at e3; cases e3
      | some k =>
        rw [hkj] at e3
        have e4 : x.1 = pairK k := Option.some.inj e3
        obtain ⟨e0, he0, r1, r2, r3⟩ := L2.DX.pget pr hj
        have e5 : H x.2.1 = some (.tup [.int k.1, .int k.2]) := by rw [r2, r1, e4]; rfl
        exact congrArg some (kOf_ref e5)
  refine Calls.call_function_entry kind_sorted plain_sorted entry_sorted (args_sorted1 _) ?_
  unfold Builtin.«sorted»
  refine wpAny_bind (m := checkCount "sorted" 1 1 _) (wpAny_pure ?_)
  refine wpAny_bind (PySem.W.kdu_collect (A := X.A.in1) (kdl_raw hs hx hdt) (show X.A.in1.handled = none from I.ok.hd hc) ho (by omega) fun h' tk acc kp it => ?_)
  have ea : acc.toList = (xs'.map fun x => x.2.1).map Value.ref := by
    rw [List.map_map]
    have hl : acc.toList.length = xs'.length := by rw [Array.length_toList, it.1]; exact l1
    apply List.ext_getElem?
    intro j
    rw [List.getElem?_map]
    cases hj : acc.toList[j]? with
    | none =>
      have h1 := List.getElem?_eq_none_iff.mp hj
      rw [List.getElem?_eq_none (by omega)]
      all_goals rfl
    | some v =>
      obtain ⟨en, hen, hv⟩ := it.2 j v (by rw [← Array.getElem?_toList]; exact hj)
      have qe := entry_at he j
      rw [hen] at qe
      cases hb : xs'[j]? with
      | none =>
        rw [hb] at qe
        exact nomatch (show some en = none from qe)
      | some b =>
        rw [hb] at qe
        have e2 : en = entryOfKey (tupleKind (mixKind X.prog X.w)) b := Option.some.inj qe
        rw [hv, e2]
        all_goals rfl
  rw [ea]
  generalize has : xs'.map (fun x => x.2.1) = as
  have hal : as.length = xs'.length := by rw [← has, List.length_map]
  have hat : ∀ a ∈ as, ∃ k : Int × Int, H a = some (.tup [.int k.1, .int k.2]) := by
    intro a ha
    rw [← has] at ha
    obtain ⟨x, hx', rfl⟩ := List.mem_map.mp ha
    obtain ⟨k, _, e⟩ := hk x hx'
    exact ⟨k, e⟩
  have hask : as.map (fun a => kOf H (.ref a)) = ks := by rw [← has, List.map_map]; exact hkl
  refine wpAny_bind (wpAny_newList ?_ (by rw [List.length_map, hal]; omega))
  have hob : (h'.push { cls := .type "list", data := .seq (as.map Value.ref).toArray }).get? h'.objs.size = some (seqObj "list" (as.map Value.ref).toArray 0) := Heap.get?_push_size _ rfl
  have kb : ∀ b o, s.heap.get? b = some o → (h'.push { cls := .type "list", data := .seq (as.map Value.ref).toArray }).get? b = some o := fun b o e => Heap.get?_push_of_some _ (kp b o e)
  have ne0 : ∀ b o, h'.get? b = some o → b ≠ h'.objs.size := fun b o e => Nat.ne_of_lt (Heap.lt_size e)
  have I1 : Inv X pins σ H { s with heap := h', toks := tk } := I.kept (t' := tk) kp
  have hn0 : H h'.objs.size = none := I1.hok.fresh (Nat.le_refl _)
  have ka : ∀ b o, h'.get? b = some o → (h'.push { cls := .type "list", data := .seq (as.map Value.ref).toArray }).get? b = some o := fun b o e => Heap.get?_push_of_some _ e
  generalize hh2 : h'.push { cls := .type "list", data := .seq (as.map Value.ref).toArray } = h2 at hob kb ka ⊢
  have hp : ∀ v ∈ as.map Value.ref, Srt.IsPair h2 v (kOf H (backV v)).1 (kOf H (backV v)).2 := fun v hv => by
    obtain ⟨a, ha, rfl⟩ := List.mem_map.mp hv
    obtain ⟨k, hka⟩ := hat a ha
    have e1 : kOf H (backV (Value.ref a)) = k := kOf_ref hka
    rw [e1]
    obtain ⟨_, its2, r2, o, ho, hc, n, hd⟩ := I.hok _ _ hka
    obtain ⟨u1, u2, rfl, ri, rj⟩ := vals2 r2
    obtain ⟨t1, rfl⟩ := ri
    obtain ⟨t2, rfl⟩ := rj
    exact ⟨a, o, t1, t2, n, rfl, kb _ _ ho, hc, hd⟩
  show wpAny _ _ _ _ _ { s with heap := h2, toks := tk }
  refine wpAny_bind (wpAny_holding (wpAny_call_entry PyProof.Rows.slot_list_sort ⟨_, hob, rfl⟩ PyProof.Rows.entry_list_sort
    (SrtO.list_sort_ord (s := { s with heap := h2, toks := tk }) (SrtO.swo_lex fun u => kOf H (backV u)) hob (by rw [List.length_map, hal]; omega) (fun hl2 => SrtO.pairs_sortableO (s := { s with heap := h2, toks := tk }) (by omega) hp fun o e => ?_) fun out h1 h3 => ⟨_, rfl, ?_⟩) (PyProof.Rows.args_list_sort _)))
  · have e' : some o = some (seqObj "list" (as.map Value.ref).toArray 0) := e.symm.trans hob
    cases e'
    intro c
    exact absurd (Value.type.inj c) (by decide)
  · refine wpAny_pure ⟨_, rfl, ?_⟩
    obtain ⟨ep', he'⟩ := PyProof.Rows.sortedHeap_at (vs := as.map Value.ref) (out := out.toArray) hob
    have hmem : ∀ u ∈ out, ∃ a, u = Value.ref a ∧ a ∈ as := fun u hu => by
      obtain ⟨a, ha, e⟩ := List.mem_map.mp (h3.perm.mem_iff.mp hu)
      exact ⟨a, e.symm, ha⟩
    have h3' : ∀ u ∈ out, ∃ a, u = Value.ref a := fun u hu => let ⟨a, e, _⟩ := hmem u hu; ⟨a, e⟩
    have kS : ∀ b o, h'.get? b = some o → (sortedHeap h2 h'.objs.size (as.map Value.ref) out.toArray).get? b = some o := fun b o e =>
      (PyProof.Rows.sortedHeap_old (ne0 b o e) (Heap.lt_size (ka b o e))).trans (ka b o e)
    -- the answer
    let zs : List (Addr × Int × Int) := out.map fun u => (match u with | .ref a => a | _ => 0, kOf H (backV u))
    have ez : (zs.map fun z => V.ref z.1) = out.map backV := by
      show (out.map _).map _ = _
      rw [List.map_map]
      apply List.map_congr_left
      intro u hu
      obtain ⟨a, rfl, _⟩ := hmem u hu
      rfl
    have ek : zs.map (·.2) = out.map fun u => kOf H (backV u) := by
      show (out.map _).map _ = _
      rw [List.map_map]
      rfl
    have eks : (as.map Value.ref).map (fun u => kOf H (backV u)) = ks := by
      rw [List.map_map]
      exact hask
    have hsrt : SrtO.Srtd lexB (zs.map (·.2)) := by
      rw [ek]
      exact SrtO.srtd_map h1
    have swo : SrtO.Swo lexB := by
      refine ⟨fun x y h => ?_, fun x y z h1 h2 => ?_⟩
      · have a := SrtO.lexB_iff.mp h
        refine SrtO.lexB_no.mpr ?_
        omega
      · have a := SrtO.lexB_no.mp h1
        have b := SrtO.lexB_no.mp h2
        refine SrtO.lexB_no.mpr ?_
        omega
    have hstb : SrtO.Stb lexB (zs.map (·.2)) ks := by
      rw [ek, ← eks]
      exact SrtO.Stb.map swo (fun u => kOf H (backV u)) h3
    have hz : ∀ z ∈ zs, H z.1 = some (.tup [.int z.2.1, .int z.2.2]) := by
      intro z hz
      obtain ⟨u, hu, rfl⟩ := List.mem_map.mp hz
      obtain ⟨a, rfl, ha⟩ := hmem u hu
      obtain ⟨k, hka⟩ := hat a ha
      have e1 : kOf H (backV (Value.ref a)) = k := kOf_ref hka
      show H a = _
      rw [e1]
      exact hka
    have hlen : (zs.map fun z => V.ref z.1).length ≤ sizeLine := by
      have e := h3.len
      rw [List.length_map, hal] at e
      rw [ez, List.length_map, e]
      omega
    refine ⟨.ref h'.objs.size, upd H h'.objs.size (.lst (zs.map fun z => V.ref z.1)), I1.laid (h' := sortedHeap h2 h'.objs.size (as.map Value.ref) out.toArray) (t' := tk) kS (Nat.le_refl _) ⟨hlen, out, ep', by rw [ez]; exact vals_back h3', he'⟩, rfl, q _ zs hn0 hsrt hstb hz⟩
end J

namespace J
open PySem L2 Evl
/-! ### operators by what stands there -/
def rAddA (K : PySem.W.Frag) : R2 := fun x y H Q => rI0 (fun i j => .int (i + j)) x y H Q ∨ (fun (x y : V) (H : Hp) (Q : VK) => ∃ i j, x = .str i ∧ y = .str j ∧ i.length + j.length ≤ sizeLine ∧ Q (.str (i ++ j)) H) x y H Q ∨ rCat x y H Q ∨ rCatA K x y H Q
theorem op_addA {X : Cx} : OpR X (binaryOp .Add) (rAddA X.K) := op_add.or (op_add_str.or (op_cat.or op_catA))
def rMulA : R2 := fun x y H Q => rI CMul (fun i j => .int (i * j)) x y H Q ∨ rRep x y H Q
theorem op_mulA {X : Cx} : OpR X (binaryOp .Mult) rMulA := op_mul.or op_rep
def rLtA (K : PySem.W.Frag) : R2 := fun x y H Q => rI0 (fun i j => .bl (decide (i < j))) x y H Q ∨ rLtT K x y H Q
theorem op_ltA {X : Cx} (hu : X.A.units < cLine) : OpR X (compareOp .Lt) (rLtA X.K) := op_lt.or (op_ltT hu)
theorem pi_or {X : Cx} {tg iter : Expr} {w1 w2 : TI} (h1 : PI X tg iter w1) (h2 : PI X tg iter w2) : PI X tg iter (fun σ H R => w1 σ H R ∨ w2 σ H R) :=
  ⟨fun pins s σ H R I h => h.elim (h1.run pins s σ H R I) (h2.run pins s σ H R I)⟩
def iSeq (K : PySem.W.Frag) (te : TE) : TI := fun σ H R => iList K te σ H R ∨ iTup K te σ H R
theorem pi_seq {X : Cx} {tg l : Expr} {tl : TE} (hl : PE X l tl) : PI X tg l (iSeq X.K tl) := pi_or (pi_list hl) (pi_tup hl)
def iEn (K : PySem.W.Frag) (ta : TA) : TI := fun σ H R => iEnum K ta σ H R ∨ iEnumT K ta σ H R
theorem pi_en {X : Cx} {e : Expr} {ta : TA} {p pos tpos : Pos} {elts : List Expr} {kk : Nat} (hg : Gl X "enumerate") (hm : X.mg "enumerate" = none) (ha : PA X [e] ta) (hs : starEach [e] X.env = [(false, eval e X.env)] := by rfl) :
    PI X (.Tuple elts kk tpos) (.Call (.Name "enumerate" p) [e] [] pos) (iEn X.K ta) := pi_or (pi_enum hg hm ha hs) (pi_enumT hg hm ha hs)
/-- a module's constant -/
theorem pe_gI {X : Cx} {x : Str} {i : Int} {pos : Pos} (hg : Gl X x) (hm : ∃ t, X.mg x = some (.int i t)) (hd : (x == ("__debug__" : Str)) = false := by decide) : PE X (.Name x pos) (tC (.int i)) := let ⟨t, h⟩ := hm; pe_glob hg h ⟨t, rfl⟩ hd
theorem pe_gS {X : Cx} {x : Str} {i : Str} {pos : Pos} (hg : Gl X x) (hm : ∃ t, X.mg x = some (.str i t)) (hd : (x == ("__debug__" : Str)) = false := by decide) : PE X (.Name x pos) (tC (.str i)) := let ⟨t, h⟩ := hm; pe_glob hg h ⟨t, rfl⟩ hd
theorem pe_gR {X : Cx} {x : Str} {a : Addr} {pos : Pos} (hg : Gl X x) (hm : X.mg x = some (.ref a)) (hd : (x == ("__debug__" : Str)) = false := by decide) : PE X (.Name x pos) (tC (.ref a)) := pe_glob hg hm rfl hd
/-- a built-in type as a value -/
theorem pe_ty {X : Cx} {x : Str} {n : String} {pos : Pos} (hg : Gl X x) (hm : X.mg x = none) (hv : bootBuiltins x = some (.type n)) (hn : x ≠ "__name__" := by decide) (hd : (x == ("__debug__" : Str)) = false := by decide) : PE X (.Name x pos) (tC (.ty n)) := pe_bltn hg hm hv rfl hn hd

/-! ### a def that stands at the top, with its promise -/
structure Dk (P : Program) (w : World) (K : PySem.W.Frag) (mg : Str → Option Value) (base : Heap) (k : Nat) (x : Str) (ps : List Str) (sp : Sp) : Prop where
  ex : ∃ f fd, FnOk P w K mg base CX0 k f fd ps sp ∧ Binds K fd ps [] ∧ mg x = some (.ref f) ∧ PySem.W.keepIn K (.ref f) = true
theorem pe_fn {X : Cx} {k : Nat} {x : Str} {ps : List Str} {sp : Sp} {p pos : Pos} {e : Expr} {es : List Expr} {t : TA} (D : Dk X.prog X.w X.K X.mg X.base k x ps sp) (hr : Room k X.A) (hg : Gl X x) (ha : PA X (e :: es) t)
    (hdb : (x == ("__debug__" : Str)) = false := by decide) (he : starEach (e :: es) X.env = (false, eval e X.env) :: starEach es X.env := by rfl) (hpl : (backTo pos (starEach es X.env)).any (·.1) = false := by rfl) :
    PE X (.Call (.Name x p) (e :: es) [] pos) (tCall sp [] E0 t) := let ⟨f, fd, F, b, m, kp⟩ := D.ex; pe_call F hr hg m kp b .nil pass0 ha hdb he hpl

/-! ### the rules with the written part named -/
section
variable [Tbs] {X : Cx} (K : PySem.W.Frag) (h : X.K = K)
include h
theorem ix_seqK : IxR X (rIx K) := h ▸ ix_seq
theorem op_addK : OpR X (binaryOp .Add) (rAddA K) := h ▸ op_addA
theorem op_eqK (hu : X.A.units + 64 < cLine) : OpR X (compareOp .Eq) (rEqA K) := h ▸ op_eqA hu
theorem op_neK (hu : X.A.units + 64 < cLine) : OpR X (compareOp .NotEq) (rNeA K) := h ▸ op_neA hu
theorem op_ltK (hu : X.A.units < cLine) : OpR X (compareOp .Lt) (rLtA K) := h ▸ op_ltA hu
theorem op_inK : OpR X (compareOp .In) (rIn K false) := h ▸ op_in_seq
theorem op_ninK : OpR X (compareOp .NotIn) (rIn K true) := h ▸ op_notIn_seq
theorem sl_seqK : SlR X (rSlA K) := h ▸ sl_seq
theorem call_isiK' : CallR X (.builtin "isinstance") (rIsi K) := h ▸ call_isi
theorem call_lenK : CallR X (.builtin "len") (fun xs H Q => ∃ p ys, xs = [.ref p] ∧ (SqL K H p ys ∨ SqT K H p ys) ∧ Q (.int ys.length) H) := h ▸ call_len_seq
theorem cr_sumK (hc : X.calm = true) : CallR X (.builtin "sum") (rSum K) := h ▸ cr_sum hc
theorem cr_allK (hc : X.calm = true) : CallR X (.builtin "all") (rAll K) := h ▸ cr_all hc
theorem call_tupleK : CallR X (.type "tuple") (fun xs H Q => ∃ p ys, xs = [.ref p] ∧ ((SqL K H p ys ∧ ∀ l, H l = none → Q (.ref l) (upd H l (.tup ys))) ∨ (SqT K H p ys ∧ Q (.ref p) H))) := h ▸ call_tuple_of
theorem call_listK : CallR X (.type "list") (fun xs H Q => ∃ p ys, xs = [.ref p] ∧ (SqL K H p ys ∨ SqT K H p ys) ∧ ∀ l, H l = none → Q (.ref l) (upd H l (.lst ys))) := h ▸ call_list_of
theorem call_dictK (hc : X.calm = true) (hu : X.A.units + 64 < cLine) : CallR X (.type "dict") (rDictT K) := h ▸ call_dictT hc hu
theorem pi_seqK {tg l : Expr} {tl : TE} (hl : PE X l tl) : PI X tg l (iSeq K tl) := h ▸ pi_seq hl
theorem pi_enK {e : Expr} {ta : TA} {p pos tpos : Pos} {elts : List Expr} {kk : Nat} (hg : Gl X "enumerate") (hm : X.mg "enumerate" = none) (ha : PA X [e] ta) (hs : starEach [e] X.env = [(false, eval e X.env)] := by rfl) :
    PI X (.Tuple elts kk tpos) (.Call (.Name "enumerate" p) [e] [] pos) (iEn K ta) := h ▸ pi_en hg hm ha hs
theorem pg_tupK {es : List Expr} {k : Nat} {pos : Pos} {t : TGs} (n : Nat) (hc : X.calm = true) (hn : es.length = n) (ht : PGs X es t) (hp : PG X (.Tuple es k pos) (gTup X.K n t)) : PG X (.Tuple es k pos) (gTup K n t) := h ▸ hp
end
section
variable [Tbs] {K : PySem.W.Frag} {σ : L2.St} {G G0 H0 G1 H : Hp} {ta tb tc te tx : TE} {t u : TT} {x y z v : V} {d d1 d2 d3 : D} {ds es : List D} {as bs : TA} {i j k m : Int} {a b c : Bool} {n : Nat} {Y : Nat → D} {wi : TI} {g : TG} {js : List Nat}
theorem e_addI (ha : EvD K ta σ G (.int i)) (hb : EvD K tb σ G (.int j)) : EvD K (tOp (rAddA K) ta tb) σ G (.int (i + j)) :=
  e_op ha hb fun x y G1 H1 Q e1 e2 r1 r2 q => .inl ⟨i, j, r1.int_of, r2.int_of, q _ G1 H1 (Step.refl e2) (.int _)⟩
theorem e_addSA {p q : Str} (ha : EvD K ta σ G (.str p)) (hb : EvD K tb σ G (.str q)) (hl : p.length + q.length ≤ sizeLine) : EvD K (tOp (rAddA K) ta tb) σ G (.str (p ++ q)) :=
  e_op ha hb fun x y G1 H1 Q e1 e2 r1 r2 k => .inr (.inl ⟨p, q, r1.str_of, r2.str_of, hl, k _ G1 H1 (Step.refl e2) (.str _)⟩)
theorem f_cat (ha : EvD K ta σ G (.lst ds)) (hb : EvD K tb σ G (.lst es)) (hl : ds.length + es.length ≤ 1000000) : EvF K (tOp (rAddA K) ta tb) σ G (ds ++ es) := fun H e Q q =>
  ha H e _ fun x G1 H1 s1 r1 => (hb.mono s1.g) H1 s1.i _ fun y G2 H2 s2 r2 => by
    obtain ⟨l, xs, rfl, hs, hx⟩ := (r1.ex s2.g).lst_of
    obtain ⟨m, ys, rfl, hs2, hy⟩ := r2.lst_of
    refine .inr (.inr (.inl ⟨l, m, xs, ys, rfl, rfl, s2.i _ _ hs, s2.i _ _ hs2, ?_, fun p hp => q p _ G2 _ ((s1.trans s2).trans (Step.own s2.i hp)) ((s1.trans s2).pre hp) (Step.back s2.i hp) upd_same (hx.app hy)⟩))
    rw [hx.len, hy.len, sizeLine_eq]
    omega
theorem e_catA (ha : EvD K ta σ G (.tup ds)) (hb : EvD K tb σ G (.tup es)) (hl : ds.length + es.length ≤ 1000000) : EvD K (tOp (rAddA K) ta tb) σ G (.tup (ds ++ es)) := fun H e Q q =>
  ha H e _ fun x G1 H1 s1 r1 => (hb.mono s1.g) H1 s1.i _ fun y G2 H2 s2 r2 => by
    obtain ⟨l, xs, rfl, hs, hx⟩ := (r1.ex s2.g).tup_of
    obtain ⟨m, ys, rfl, hs2, hy⟩ := r2.tup_of
    refine .inr (.inr (.inr ⟨l, m, xs, ys, rfl, rfl, .of (s2.i _ _ hs), .of (s2.i _ _ hs2), ?_, fun z => ?_, fun z z2 => ?_, fun _ _ p hp => q _ _ _ ((s1.trans s2).trans (Step.new s2.i hp)) (.tup upd_same ((hx.app hy).ex (Ex.new (Step.back s2.i hp))))⟩))
    · rw [hx.len, hy.len, sizeLine_eq]
      omega
    · subst z
      cases hx
      exact q _ _ _ (s1.trans s2) (.tup hs2 hy)
    · subst z2
      cases hy
      rw [List.append_nil] at q
      exact q _ _ _ (s1.trans s2) (.tup hs hx)
theorem e_catT (ha : EvD K ta σ G (.tup ds)) (hb : EvD K tb σ G (.tup es)) (hd : ds ≠ []) (he : es ≠ []) (hl : ds.length + es.length ≤ 1000000) : EvD K (tOp (rAddA K) ta tb) σ G (.tup (ds ++ es)) := e_catA ha hb hl
theorem e_catT0 (ha : EvD K ta σ G (.tup ds)) (hb : EvD K tb σ G (.tup es)) (hd : ds ≠ []) (hl : ds.length + es.length ≤ 1000000) : EvD K (tOp (rAddA K) ta tb) σ G (.tup (ds ++ es)) := e_catA ha hb hl
theorem e_mulI (ha : EvD K ta σ G (.int i)) (hb : EvD K tb σ G (.int j)) (hc : CMul i j) : EvD K (tOp rMulA ta tb) σ G (.int (i * j)) :=
  e_op ha hb fun x y G1 H1 Q e1 e2 r1 r2 q => .inl ⟨i, j, r1.int_of, r2.int_of, hc, q _ G1 H1 (Step.refl e2) (.int _)⟩
theorem RpA.rep {xs : List V} (r : RpA K H xs ds) : ∀ n : Nat, RpA K H (List.replicate n xs).flatten (List.replicate n ds).flatten
  | 0 => .nil
  | n + 1 => by
    rw [List.replicate_succ, List.flatten_cons, List.replicate_succ, List.flatten_cons]
    exact r.app (RpA.rep r n)
theorem f_rep {n : Nat} (ha : EvD K ta σ G (.lst ds)) (hb : EvD K tb σ G (.int n)) (hl : ds.length * n ≤ 1000000) (hn : n ≤ 1000000) : EvF K (tOp rMulA ta tb) σ G (List.replicate n ds).flatten := fun H e Q q =>
  ha H e _ fun x G1 H1 s1 r1 => (hb.mono s1.g) H1 s1.i _ fun y G2 H2 s2 r2 => by
    obtain ⟨l, xs, rfl, hs, hx⟩ := (r1.ex s2.g).lst_of
    refine .inr ⟨l, (n : Int), xs, rfl, r2.int_of, s2.i _ _ hs, by omega, by omega, ?_, fun p hp => q p _ G2 _ ((s1.trans s2).trans (Step.own s2.i hp)) ((s1.trans s2).pre hp) (Step.back s2.i hp) upd_same ?_⟩
    · rw [hx.len, sizeLine_eq]
      have : (n : Int).toNat = n := rfl
      rw [this]
      omega
    · exact hx.rep n
theorem e_ltI (ha : EvD K ta σ G (.int i)) (hb : EvD K tb σ G (.int j)) : EvD K (tOp (rLtA K) ta tb) σ G (.bl (decide (i < j))) :=
  e_op ha hb fun x y G1 H1 Q e1 e2 r1 r2 q => .inl ⟨i, j, r1.int_of, r2.int_of, q _ G1 H1 (Step.refl e2) (.bl _)⟩
theorem e_ltT {ns ms : List Int} (ha : EvD K ta σ G (.tup ds)) (hb : EvD K tb σ G (.tup es)) (hd : ds = ns.map D.int) (he : es = ms.map D.int) : EvD K (tOp (rLtA K) ta tb) σ G (.bl (HT.lexLt ns ms)) :=
  e_op ha hb fun x y G1 H1 Q e1 e2 r1 r2 q => by
    subst hd he
    obtain ⟨l, xs, rfl, hs, hx⟩ := r1.tup_of
    obtain ⟨m, ys, rfl, hs2, hy⟩ := r2.tup_of
    have z1 := hx.ints
    have z2 := hy.ints
    subst z1 z2
    exact .inr ⟨l, m, ns, ms, rfl, rfl, .of (e2 _ _ hs), .of (e2 _ _ hs2), q _ G1 H1 (Step.refl e2) (.bl _)⟩

/-! ### walks -/
theorem i_seqL (h : EvD K te σ G (.lst ds)) : EvI K (iSeq K te) σ G ds.length (nth ds) := fun H e R q => .inl (i_list h H e R q)
theorem i_seqT (h : EvD K te σ G (.tup ds)) : EvI K (iSeq K te) σ G ds.length (nth ds) := fun H e R q => .inr (i_tup h H e R q)
theorem i_seqT' {n : Nat} (hn : ds.length = n) (h : EvD K te σ G (.tup ds)) : EvI K (iSeq K te) σ G n (nth ds) := hn ▸ i_seqT h
theorem i_seqL' {n : Nat} (hn : ds.length = n) (h : EvD K te σ G (.lst ds)) : EvI K (iSeq K te) σ G n (nth ds) := hn ▸ i_seqL h
theorem i_enL (h : EvD K te σ G (.lst ds)) : EvI K (iEn K (tCons te tNil)) σ G ds.length (fun i => .tup [.int i, nth ds i]) := fun H e R q => .inl (i_enum h H e R q)
theorem i_enL' {n : Nat} (hn : ds.length = n) (h : EvD K te σ G (.lst ds)) : EvI K (iEn K (tCons te tNil)) σ G n (fun i => .tup [.int i, nth ds i]) := hn ▸ i_enL h
theorem walkD_enumT {p : Addr} {xs : List V} (h : G p = some (.tup xs)) (r : RpA K G xs ds) : WalkD K (Iet K p) ds.length G (fun i => .tup [.int i, nth ds i]) where
  goes := fun i H hi e => ⟨xs, xs[i]'(by rw [r.len]; exact hi), .of (e _ _ h), by simp [r.len, hi]⟩
  stops := fun H e => ⟨xs, .of (e _ _ h), by rw [r.len]; exact Nat.le_refl _⟩
  yields := fun i G1 H x H' hi e1 e2 y => by
    obtain ⟨T, x, rfl, hT, rfl, y⟩ := y
    have hx := y xs (.of (e2 _ _ (e1 _ _ h)))
    obtain ⟨d, hd, rd⟩ := r.get hx
    exact ⟨_, Step.new e2 hT, .tup upd_same (.cons (.int _) (.cons (by rw [nth_of hd]; exact (rd.ex e1).ex (Ex.new (Step.back e2 hT))) .nil))⟩
theorem i_enT (h : EvD K te σ G (.tup ds)) : EvI K (iEn K (tCons te tNil)) σ G ds.length (fun i => .tup [.int i, nth ds i]) := fun H e R q =>
  .inr (h H e _ fun v G1 H1 s r => by
    obtain ⟨p, xs, rfl, hs, ha⟩ := r.tup_of
    exact ⟨p, xs, rfl, .of (s.i _ _ hs), q _ G1 H1 s (walkD_enumT hs ha)⟩)

theorem i_enT' {n : Nat} (hn : ds.length = n) (h : EvD K te σ G (.tup ds)) : EvI K (iEn K (tCons te tNil)) σ G n (fun i => .tup [.int i, nth ds i]) := hn ▸ i_enT h
/-! ### dicts -/
/-- dict(pairs) -/
theorem RpA.pairs : ∀ {kvs : List (List Key × V)} {vs : List V}, RpA K H vs (kvs.map fun kv => D.tup [.tup (kv.1.map kD), vD kv.2]) → (∀ kv ∈ kvs, scalV kv.2 = true) →
    ∃ (ps : List Addr) (ts : List (List Key × Addr × V)), vs = ps.map V.ref ∧ ts.map (fun t => (t.1, t.2.2)) = kvs ∧ Paired (fun p (t : List Key × Addr × V) => H p = some (.tup [.ref t.2.1, t.2.2]) ∧ H t.2.1 = some (.tup (t.1.map kV))) ps ts
  | [], _, h, _ => by cases h; exact ⟨[], [], rfl, rfl, .nil⟩
  | kv :: kvs, _, h, hs => by
    cases h with
    | cons h1 h2 =>
      obtain ⟨ps, ts, rfl, e2, pr⟩ := RpA.pairs h2 fun q hq => hs q (List.mem_cons_of_mem _ hq)
      obtain ⟨p, xs, rfl, hp, hx⟩ := h1.tup_of
      obtain ⟨v, w, rfl, r1, r2⟩ := hx.two
      obtain ⟨b, ys, rfl, hb, hy⟩ := r1.tup_of
      have z := hy.keys
      subst z
      have hw : w = kv.2 := by
        have h0 := hs kv List.mem_cons_self
        obtain ⟨k, v⟩ := kv
        cases v <;> first | (cases r2; rfl) | cases h0
      subst hw
      exact ⟨p :: ps, (kv.1, b, kv.2) :: ts, rfl, by rw [List.map_cons, e2], .cons ⟨hp, hb⟩ pr⟩
theorem e_dictT {kvs : List (List Key × V)} (ha : EvD K ta σ G (.lst ds)) (hd : ds = kvs.map fun kv => D.tup [.tup (kv.1.map kD), vD kv.2]) (hs : ∀ kv ∈ kvs, scalV kv.2 = true) : EvD K (tCB (rDictT K) (tCons ta tNil)) σ G (.tab (mergeT [] kvs)) :=
  e_cb (a_one ha) fun vs G1 H1 Q e1 e2 r k => by
    subst hd
    obtain ⟨v, rfl, rr⟩ := r.one
    obtain ⟨a, xs, rfl, h1, h2⟩ := rr.lst_of
    obtain ⟨ps, ts, rfl, e3, pr⟩ := (h2.ex e2).pairs hs
    refine ⟨a, ps, ts, rfl, e2 _ _ h1, pr, fun p hp => ?_⟩
    rw [e3]
    exact k _ _ _ (Step.new e2 hp) (.tab upd_same)
/-- sorted(d) of a dict whose keys stand rising -/
theorem f_sortedDT {kvs : List (List Key × V)} {ks : List (Int × Int)} (ha : EvD K ta σ G (.tab kvs)) (hk : kvs.map (·.1) = ks.map pairK) (hs : SrtO.Srtd lexB ks) : EvF K (tCB rSortedDT (tCons ta tNil)) σ G (ks.map fun k => .tup [.int k.1, .int k.2]) := fun H e Q q =>
  a_one ha H e _ fun vs G1 H1 s1 r => by
    obtain ⟨v, rfl, rr⟩ := r.one
    obtain ⟨a, rfl, h1⟩ := rr.tab_of
    refine ⟨a, kvs, ks, rfl, s1.i _ _ h1, hk, fun p zs hp h2 h3 h4 => ?_⟩
    have swo : SrtO.Swo lexB := by
      refine ⟨fun x y h => ?_, fun x y z h1 h2 => ?_⟩
      · have a := SrtO.lexB_iff.mp h
        refine SrtO.lexB_no.mpr ?_
        omega
      · have a := SrtO.lexB_no.mp h1
        have b := SrtO.lexB_no.mp h2
        refine SrtO.lexB_no.mpr ?_
        omega
    have e3 : zs.map (·.2) = ks := SrtO.stb_uniq swo h2 hs h3
    subst e3
    -- the keys' tuples are taken into what stays
    have ex : ∀ (zs : List (Addr × Int × Int)), (∀ z ∈ zs, H1 z.1 = some (.tup [.int z.2.1, .int z.2.2])) → ∀ G2, Ex G2 H1 → ∃ G3, Step G2 H1 G3 H1 ∧ RpA K G3 (zs.map fun z => V.ref z.1) (zs.map fun z => D.tup [.int z.2.1, .int z.2.2]) := by
      intro zs hz
      induction zs with
      | nil => intro G2 e2; exact ⟨G2, Step.refl e2, .nil⟩
      | cons z zs ih =>
        intro G2 e2
        obtain ⟨G3, s3, r3⟩ := ih (fun z hz' => hz z (List.mem_cons_of_mem _ hz')) G2 e2
        have hz0 := hz z List.mem_cons_self
        have s4 := Step.tup s3.i hz0
        exact ⟨_, s3.trans s4, .cons (.tup upd_same (.cons (.int _) (.cons (.int _) .nil))) (r3.ex s4.g)⟩
    obtain ⟨G3, s3, r3⟩ := ex zs h4 G1 s1.i
    have e5 : ((zs.map (·.2)).map fun k => D.tup [.int k.1, .int k.2]) = zs.map fun z => D.tup [.int z.2.1, .int z.2.2] := by rw [List.map_map]; rfl
    rw [e5] at q
    exact q p _ G3 _ ((s1.trans s3).trans (Step.own s3.i hp)) (s1.pre hp) (Step.back s3.i hp) upd_same r3

/-! ### own objects -/
/-- behind a step that took an own object as standing, it is one's own again -/
theorem Step.thaw {p : Addr} {o : HO} {G' H' : Hp} (hp : G p = none) (hx : H p = some o) (s : Step (upd G p o) H G' H') (nc : isCode o = false := by rfl) : ∃ G2, Step G H G2 H' ∧ G2 p = none ∧ H' p = some o ∧ (∀ b u, b ≠ p → G' b = some u → G2 b = some u) ∧ ∀ b, G' b = none → G2 b = none := by
  have gp : G' p = some o := s.g.k p o upd_same (isTbl_code nc)
  have k1 : ∀ b, b ≠ p → (fun b => if b = p then none else G' b) b = G' b := fun b z => if_neg z
  have k2 : (fun b => if b = p then none else G' b) p = none := if_pos rfl
  generalize (fun b => if b = p then none else G' b) = G2 at k1 k2
  have np : ∀ b u, G b = some u → b ≠ p := fun b u hb z => by rw [z, hp] at hb; cases hb
  have n2 : ∀ b u, G2 b = some u → b ≠ p := fun b u hb z => by rw [z, k2] at hb; cases hb
  refine ⟨G2, ⟨⟨fun b u hb t => ?_, fun b ps hb => ?_⟩, ⟨fun b u hb t => ?_, fun b ps hb => ?_⟩, s.h, fun b u h1 h2 h3 => ?_, fun b u h1 h2 h3 => ?_⟩, k2, s.h.k p o hx (isTbl_code nc), fun b u z h => (by rw [k1 b z]; exact h), fun b h => ?_⟩
  · have z := np b u hb
    rw [k1 b z]
    exact s.g.k b u ((upd_ne z).trans hb) t
  · have z := np b _ hb
    obtain ⟨ps', h1, g⟩ := s.g.t b ps ((upd_ne z).trans hb)
    refine ⟨ps', by rw [k1 b z]; exact h1, fun ht => ?_⟩
    obtain ⟨h2, h3⟩ := g ht
    refine ⟨h2, fun pos cv hc => (h3 pos cv hc).elim .inl fun ⟨c, e1, e2⟩ => .inr ⟨c, e1, ?_⟩⟩
    have zc : c ≠ p := fun z => by
      rw [z, gp] at e2
      cases e2
      cases nc
    rw [k1 c zc]
    exact e2
  · have z := n2 b u hb
    rw [k1 b z] at hb
    exact s.i.k b u hb t
  · have z := n2 b _ hb
    rw [k1 b z] at hb
    exact s.i.t b ps hb
  · by_cases z : b = p
    · rw [z]; exact k2
    · rw [k1 b z]; exact s.n b u ((upd_ne z).trans h1) h2 h3
  · have z : b ≠ p := fun z => by rw [z, hx] at h1; cases h1
    rw [k1 b z]
    exact s.c b u h1 h2 h3
  · by_cases z : b = p
    · rw [z]; exact k2
    · rw [k1 b z]; exact h
theorem ex_own {p : Addr} {o : HO} (e : Ex G H) (hx : H p = some o) (nc : isCode o = false := by rfl) : Ex (upd G p o) H := e.take hx nc
theorem rp_own {p : Addr} {o : HO} (hp : G p = none) (r : Rp K G v d) : Rp K (upd G p o) v d := r.ex (Ex.new hp)
theorem Rp.flat_any {G2 : Hp} (r : Rp K G v d) (h : d.flat = true) : Rp K G2 v d := by
  cases r <;> first | exact .non | exact .bl _ | exact .int _ | exact .str _ | cases h
variable {Dn : Ends} {tu tw tz : TS}
theorem s_ifO {p : Addr} {o : HO} (e : Ex G H) (hp : G p = none) (hx : H p = some o) (h : EvB t σ (upd G p o) b) (h1 : b = true → ∀ G1 H1, Step G H G1 H1 → G1 p = none → H1 p = some o → tu Dn σ H1)
    (h2 : b = false → ∀ G1 H1, Step G H G1 H1 → G1 p = none → H1 p = some o → tw Dn σ H1) (nc : isCode o = false := by rfl) : tIfS t tu tw Dn σ H := h H (ex_own e hx nc) _ fun G1 H1 s => by
  obtain ⟨G2, s2, g2, x2, _⟩ := s.thaw hp hx nc
  cases b with
  | true => exact h1 rfl G2 H1 s2 g2 x2
  | false => exact h2 rfl G2 H1 s2 g2 x2
theorem q_ifO {p : Addr} {o : HO} (e : Ex G H) (hp : G p = none) (hx : H p = some o) (h : EvB t σ (upd G p o) b) (h1 : b = true → ∀ G1 H1, Step G H G1 H1 → G1 p = none → H1 p = some o → tu { Dn with nx := tz Dn } σ H1)
    (h2 : b = false → ∀ G1 H1, Step G H G1 H1 → G1 p = none → H1 p = some o → tw { Dn with nx := tz Dn } σ H1) (nc : isCode o = false := by rfl) : tSeq (tIfS t tu tw) tz Dn σ H := s_ifO (Dn := { Dn with nx := tz Dn }) e hp hx h h1 h2 nc
/-- x = e, e reads an own object, its value flat -/
theorem q_asgO {p : Addr} {o : HO} {i : Nat} (e : Ex G H) (hp : G p = none) (hx : H p = some o) (h : EvD K te σ (upd G p o) d) (hf : d.flat = true) (k : ∀ v G1 H1, Step G H G1 H1 → G1 p = none → H1 p = some o → Rp K G1 v d → tz Dn (σ.set i (some v)) H1) (nc : isCode o = false := by rfl) :
    tSeq (tAsg te (gName i)) tz Dn σ H := h H (ex_own e hx nc) _ fun v G1 H1 s r => by
  obtain ⟨G2, s2, g2, x2, _⟩ := s.thaw hp hx nc
  exact k v G2 H1 s2 g2 x2 (r.flat_any hf)
/-- {} -/
theorem q_newT {i : Nat} (e : Ex G H) (k : ∀ p H1, H p = none → G p = none → Step G H G H1 → H1 p = some (.dT []) → tz Dn (σ.set i (some (.ref p))) H1) : tSeq (tAsg tDNewT (gName i)) tz Dn σ H :=
  fun p hp => k p _ hp (Step.back e hp) (Step.own e hp) upd_same
theorem q_newK {i : Nat} (e : Ex G H) (k : ∀ p H1, H p = none → G p = none → Step G H G H1 → H1 p = some (.dK []) → tz Dn (σ.set i (some (.ref p))) H1) : tSeq (tAsg tDNewK (gName i)) tz Dn σ H :=
  fun p hp => k p _ hp (Step.back e hp) (Step.own e hp) upd_same
/-- p[key] = v, p an own dict in slot i -/
theorem s_dputT {i : Nat} {p : Addr} {kvs : List (List Key × V)} {ks : List Key} (e : Ex G H) (hp : G p = none) (hx : H p = some (.dT kvs)) (hi : σ[i]? = some (some (.ref p))) (hv : EvD K te σ G d) (hf : d.flat = true) (hk : EvD K tb σ G d2) (hkd : d2 = .tup (ks.map kD)) (hz : kvs.length < 1000000)
    (k : ∀ G1 H1, Step G H G1 H1 → G1 p = none → Dn.nx σ (upd H1 p (.dT (putK kvs ks d.toV)))) : sDPut (tVar i) tb te Dn σ H :=
  hv H e _ fun v G1 H1 s1 r1 => ⟨_, hi, (hk.mono s1.g) H1 s1.i _ fun y G2 H2 s2 r2 => by
    subst hkd
    obtain ⟨b, xs, rfl, hb, hxs⟩ := r2.tup_of
    have z := hxs.keys
    subst z
    have s := s1.trans s2
    obtain ⟨g2, x2⟩ := s.keep hp hx
    rw [(r1.flat hf).1]
    exact ⟨p, _, rfl, DPut.t x2 (s2.i _ _ hb) (by rw [sizeLine_eq]; omega), k G2 H2 s g2⟩⟩
theorem q_dputT {i : Nat} {p : Addr} {kvs : List (List Key × V)} {ks : List Key} (e : Ex G H) (hp : G p = none) (hx : H p = some (.dT kvs)) (hi : σ[i]? = some (some (.ref p))) (hv : EvD K te σ G d) (hf : d.flat = true) (hk : EvD K tb σ G d2) (hkd : d2 = .tup (ks.map kD)) (hz : kvs.length < 1000000)
    (k : ∀ G1 H1, Step G H G1 H1 → G1 p = none → tz Dn σ (upd H1 p (.dT (putK kvs ks d.toV)))) : tSeq (sDPut (tVar i) tb te) tz Dn σ H := s_dputT (Dn := { Dn with nx := tz Dn }) e hp hx hi hv hf hk hkd hz k

/-! ### comprehensions over typed lists -/
theorem pick_map {α : Type} {xs : List α} {p : α → Bool} {f : α → D} : pick xs.length (fun i => (xs[i]?.map p).getD false) (fun i => (xs[i]?.map f).getD .non) = (xs.filter p).map f := by
  unfold pick
  have h : (List.range xs.length).map (fun i => xs[i]?) = xs.map some := by
    apply List.ext_getElem?
    intro i
    rw [List.getElem?_map, List.getElem?_map]
    by_cases hi : i < xs.length
    · rw [List.getElem?_range hi, List.getElem?_eq_getElem hi]
      show some (xs[i]?) = some (some xs[i])
      rw [List.getElem?_eq_getElem hi]
    · rw [List.getElem?_eq_none (by rw [List.length_range]; omega), List.getElem?_eq_none (by omega)]
      rfl
  have e1 : (fun i => (xs[i]?.map p).getD false) = (fun o : Option α => (o.map p).getD false) ∘ (fun i : Nat => xs[i]?) := rfl
  have e2 : (fun i => (xs[i]?.map f).getD D.non) = (fun o : Option α => (o.map f).getD .non) ∘ (fun i : Nat => xs[i]?) := rfl
  rw [e1, e2, ← List.map_map, ← List.filter_map, h, List.filter_map, List.map_map]
  rfl
theorem at_mapT {α : Type} {xs : List α} {f : α → D} {k : Nat} {x : α} (h : xs[k]? = some x) : D.at (.tup (xs.map f)) (k : Int) = some (f x) := atI_nat (by rw [List.getElem?_map, h]; rfl)
theorem at_mapL {α : Type} {xs : List α} {f : α → D} {k : Nat} {x : α} (h : xs[k]? = some x) : D.at (.lst (xs.map f)) (k : Int) = some (f x) := atI_nat (by rw [List.getElem?_map, h]; rfl)
theorem f_lcm {α : Type} {xs : List α} {tt : TT} {vs : List Nat} (E : Nat → α → List D) (p : α → Bool) (f : α → D) (hi : EvI K wi σ G xs.length Y) (hg : ∀ i x, xs[i]? = some x → EvG K g (Y i) js (E i x)) (hz : xs.length ≤ 1000000)
    (hl : ∀ i x, xs[i]? = some x → (E i x).length = js.length)
    (hw : ∀ us : List V, us.length = js.length → wipe (setAll (wipe σ vs) js us) vs = wipe σ vs)
    (ht : ∀ i x, xs[i]? = some x → ∀ G1, Ex G G1 → ∀ us, RpA K G1 us (E i x) → EvB tt (setAll (wipe σ vs) js us) G1 (p x))
    (he : ∀ i x, xs[i]? = some x → p x = true → ∀ G1, Ex G G1 → ∀ us, RpA K G1 us (E i x) → EvD K te (setAll (wipe σ vs) js us) G1 (f x)) : EvF K (tLc wi g tt te vs) σ G ((xs.filter p).map f) := by
  have hx : ∀ i, i < xs.length → ∃ x, xs[i]? = some x := fun i h => ⟨_, List.getElem?_eq_getElem h⟩
  rw [← pick_map]
  refine f_lc (fun i => (xs[i]?.map (E i)).getD []) _ _ hi (fun i h => ?_) hz (fun i h => ?_) hw (fun i h G1 e us r => ?_) (fun i h hb G1 e us r => ?_)
  · obtain ⟨x, e⟩ := hx i h
    show EvG K g (Y i) js ((xs[i]?.map (E i)).getD [])
    rw [e]
    exact hg i x e
  · obtain ⟨x, e⟩ := hx i h
    show ((xs[i]?.map (E i)).getD []).length = js.length
    rw [e]
    exact hl i x e
  · obtain ⟨x, e1⟩ := hx i h
    have r : RpA K G1 us ((xs[i]?.map (E i)).getD []) := r
    show EvB tt _ G1 ((xs[i]?.map p).getD false)
    rw [e1] at r ⊢
    exact ht i x e1 G1 e us r
  · obtain ⟨x, e1⟩ := hx i h
    have r : RpA K G1 us ((xs[i]?.map (E i)).getD []) := r
    have hb : (xs[i]?.map p).getD false = true := hb
    show EvD K te _ G1 ((xs[i]?.map f).getD .non)
    rw [e1] at r hb ⊢
    exact he i x e1 hb G1 e us r

/-! ### tests whose answer is known -/
theorem b_orF (h1 : EvB t σ G false) (h2 : EvB u σ G false) : EvB (tOr t u) σ G false := b_or h1 fun _ => h2
theorem b_orT (h1 : EvB t σ G true) : EvB (tOr t u) σ G true := (b_or (b := true) h1 fun z => nomatch z).eq rfl
theorem b_andT (h1 : EvB t σ G true) (h2 : EvB u σ G true) : EvB (tAnd t u) σ G true := b_and h1 fun _ => h2
theorem b_andF (h1 : EvB t σ G false) : EvB (tAnd t u) σ G false := (b_and (b := true) h1 fun z => nomatch z).eq rfl
theorem b_notT (h1 : EvB t σ G true) : EvB (tNot t) σ G false := b_not h1
theorem b_notF (h1 : EvB t σ G false) : EvB (tNot t) σ G true := b_not h1
theorem e_chainT {i j k : Int} (ha : EvD K ta σ G (.int i)) (hb : EvD K tb σ G (.int j)) (hc : EvD K tc σ G (.int k)) (h1 : i ≤ j) (h2 : j ≤ k) : EvD K (tChain (rI0 fun i j => .bl (decide (i ≤ j))) (rI0 fun i j => .bl (decide (i ≤ j))) ta tb tc) σ G (.bl true) :=
  (e_chain (a := decide (i ≤ j)) (b := decide (j ≤ k)) ha hb (fun _ => hc) c_le c_le).eq (by rw [decide_eq_true h1, decide_eq_true h2]; rfl)
theorem e_andT (h1 : EvD K ta σ G (.bl true)) (h2 : EvD K tb σ G (.bl true)) : EvD K (tAndV ta tb) σ G (.bl true) := e_and h1 fun _ => h2
theorem EvD.bl (h : EvD K te σ G (.bl a)) (e : a = b) : EvD K te σ G (.bl b) := e ▸ h
theorem EvD.int (h : EvD K te σ G (.int i)) (e : i = j) : EvD K te σ G (.int j) := e ▸ h
/-- s in a table of the module -/
theorem e_ninK {a : Addr} {ds : List V} (ha : EvD K ta σ G d1) (h1 : d1.flat = true) (hs : ∀ H, SqT K H a ds) (h2 : ds.all flatV = true) : EvD K (tOp (rIn K true) ta (tC (.ref a))) σ G (.bl (!inV d1.toV ds)) := fun H e Q q =>
  ha H e _ fun x G1 H1 s1 r1 => by
    obtain ⟨q1, q2⟩ := r1.flat h1
    refine ⟨a, ds, rfl, .inr (hs _), q2, h2, ?_⟩
    subst q1
    exact q _ G1 H1 s1 (.bl _)
theorem e_tup1 (h1 : EvD K ta σ G d1) : EvD K (tTup (tCons ta tNil)) σ G (.tup [d1]) := e_tup (a_one h1) (by show 1 ≤ 100000; decide)
theorem e_tup2 (h1 : EvD K ta σ G d1) (h2 : EvD K tb σ G d2) : EvD K (tTup (tCons ta (tCons tb tNil))) σ G (.tup [d1, d2]) := e_tup (a_cons h1 (a_one h2)) (by show 2 ≤ 100000; decide)
theorem e_tup3 (h1 : EvD K ta σ G d1) (h2 : EvD K tb σ G d2) (h3 : EvD K tc σ G d3) : EvD K (tTup (tCons ta (tCons tb (tCons tc tNil)))) σ G (.tup [d1, d2, d3]) := e_tup (a_cons h1 (a_cons h2 (a_one h3))) (by show 3 ≤ 100000; decide)
theorem q_when (e : Ex G H) (h : EvB t σ G b) (h1 : b = true → ∀ G1 H1, Step G H G1 H1 → tu { Dn with nx := tz Dn } σ H1) (h2 : b = false → ∀ G1 H1, Step G H G1 H1 → tz Dn σ H1) : tSeq (tIfS t tu tNext) tz Dn σ H := q_if e h h1 h2
theorem q_whenO {p : Addr} {o : HO} (e : Ex G H) (hp : G p = none) (hx : H p = some o) (h : EvB t σ (upd G p o) b) (h1 : b = true → ∀ G1 H1, Step G H G1 H1 → G1 p = none → H1 p = some o → tu { Dn with nx := tz Dn } σ H1)
    (h2 : b = false → ∀ G1 H1, Step G H G1 H1 → G1 p = none → H1 p = some o → tz Dn σ H1) (nc : isCode o = false := by rfl) : tSeq (tIfS t tu tNext) tz Dn σ H := q_ifO e hp hx h h1 h2 nc
theorem s_when (e : Ex G H) (h : EvB t σ G b) (h1 : b = true → ∀ G1 H1, Step G H G1 H1 → tu Dn σ H1) (h2 : b = false → ∀ G1 H1, Step G H G1 H1 → Dn.nx σ H1) : tIfS t tu tNext Dn σ H := s_if e h h1 h2
theorem i_rng2' {n : Nat} (h1 : EvD K ta σ G (.int i)) (h2 : EvD K tb σ G (.int j)) (hb : (-1000000 ≤ i ∧ i ≤ 1000000) ∧ -1000000 ≤ j ∧ j ≤ 1000000) (hn : (j - i).toNat = n) : EvI K (iRng2 (tCons ta (tCons tb tNil))) σ G n (fun k => .int (i + k)) := hn ▸ i_rng2 h1 h2 hb
theorem i_rng1' {n : Nat} (h : EvD K te σ G (.int n)) (hb : n ≤ 1000000) : EvI K (iRng1 (tCons te tNil)) σ G n (fun k => .int k) := i_rng1 h (by omega)
theorem q_newL {i : Nat} (e : Ex G H) (k : ∀ p H1, H p = none → G p = none → Step G H G H1 → H1 p = some (.lst []) → tz Dn (σ.set i (some (.ref p))) H1) : tSeq (tAsg (tLst tNil) (gName i)) tz Dn σ H :=
  ⟨Nat.zero_le _, fun p hp => k p _ hp (Step.back e hp) (Step.own e hp) upd_same⟩
theorem q_asgC {i : Nat} (k : tz Dn (σ.set i (some v)) H) : tSeq (tAsg (tC v) (gName i)) tz Dn σ H := k
end
end J

/-! Draws: an own list of ints that is drawn from. -/
namespace J
open PySem L2 Evl
structure DOk (ms : List Int) : Prop where
  ex : ∃ a b rest, ms = a :: b :: rest ∧ (0 ≤ a ∧ a < 2147483647) ∧ 0 ≤ b ∧ (∀ x ∈ rest, 0 ≤ x) ∧ rest.length ≤ 63
def Dice (p : Addr) (H : Hp) : Prop := ∃ ms, H p = some (.lst (ms.map V.int)) ∧ DOk ms
def hide (p : Addr) (H : Hp) : Hp := fun b => if b = p then none else H b
theorem hide_p {p : Addr} {H : Hp} : hide p H p = none := if_pos rfl
theorem hide_ne {p b : Addr} {H : Hp} (h : b ≠ p) : hide p H b = H b := if_neg h
theorem hide_of {p b : Addr} {H : Hp} {o : HO} (h : hide p H b = some o) : b ≠ p ∧ H b = some o := by
  have z : b ≠ p := fun z => by rw [z, hide_p] at h; cases h
  rw [hide_ne z] at h
  exact ⟨z, h⟩
theorem ex_hide [Tbs] {p : Addr} {G H : Hp} (e : Ex G H) (g : G p = none) (d : Dice p H) : Ex G (hide p H) := by
  obtain ⟨ms, hm, _⟩ := d
  have np : ∀ b u, G b = some u → b ≠ p := fun b u hb z => by rw [z, g] at hb; cases hb
  refine ⟨fun b o hb t => ?_, fun b ps hb => ?_⟩
  · rw [hide_ne (np b o hb)]
    exact e.k b o hb t
  · obtain ⟨ps', h1, gr⟩ := e.t b ps hb
    refine ⟨ps', by rw [hide_ne (np b _ hb)]; exact h1, fun ht => ?_⟩
    obtain ⟨h2, h3⟩ := gr ht
    refine ⟨h2, fun pos cv hc => (h3 pos cv hc).elim .inl fun ⟨c, e1, e2⟩ => .inr ⟨c, e1, ?_⟩⟩
    rw [hide_ne (fun z => by rw [z, hm] at e2; cases e2)]
    exact e2
theorem hide_ex [Tbs] {p : Addr} {H : Hp} : Ex (hide p H) H := .of fun b o hb => (hide_of hb).2
theorem hide_hide [Tbs] {p : Addr} {H H1 : Hp} (e : Ex (hide p H) H1) (d : Dice p H1) : Ex (hide p H) (hide p H1) := ex_hide e hide_p d
section
variable [Tbs] {K : PySem.W.Frag} {σ : L2.St} {p : Addr} {G G1 G2 H H1 H2 : Hp} {ta tb te tx : TE} {t u : TT} {x y z v : V} {d d1 d2 d3 : D} {ds es : List D} {as bs : TA} {i j k m : Int} {a b c : Bool} {n : Nat}
theorem Dice.nocode (d : Dice p H) {o : HO} (h : H p = some o) : isCode o = false := by
  obtain ⟨ms, hm, _⟩ := d
  rw [hm] at h
  cases h
  rfl
theorem Step.start (e : Ex G H) (g : G p = none) (d : Dice p H) : Step G (hide p H) G H := ⟨Ex.refl _, e, hide_ex, fun _ _ h _ _ => h, fun b o h1 h2 h3 => by
  by_cases z : b = p
  · subst z
    rw [d.nocode h2] at h3
    cases h3
  · rw [hide_ne z, h2] at h1
    cases h1⟩
theorem Step.transR (a : Step G (hide p H) G1 H1) (b : Step G1 (hide p H1) G2 H2) (d : Dice p H1) : Step G (hide p H) G2 H2 := by
  refine ⟨a.g.trans b.g, b.i, (hide_hide a.h d).trans b.h, fun x o h1 h2 h3 => ?_, fun x o h1 h2 h3 => ?_⟩
  · obtain ⟨z, h2'⟩ := hide_of h2
    cases o with
    | tbl ps =>
      obtain ⟨ps', h', _⟩ := a.h.t x ps h2
      exact b.n x _ (a.n x _ h1 h2 h3) ((hide_ne z).trans h') rfl
    | _ => exact b.n x _ (a.n x _ h1 h2 h3) ((hide_ne z).trans (a.h.k x _ h2 rfl)) h3
  · cases z : hide p H1 x with
    | none => exact b.c x o z h2 h3
    | some u =>
      obtain ⟨n, z⟩ := hide_of z
      have hu : isCode u = true := by
        cases u with
        | tbl _ => rfl
        | ext _ => rfl
        | _ =>
          have h' := b.h.k x _ ((hide_ne n).trans z) rfl
          rw [h2] at h'
          cases h'
          exact h3
      have h' := a.c x u h1 z hu
      intro z2
      exact h' (fresh_back b.g z2)
/-- a plain step, seen beside the draws -/
theorem Step.toR (s : Step G H G1 H1) (g : G p = none) (d : Dice p H) : Step G (hide p H) G1 H1 ∧ G1 p = none ∧ Dice p H1 := by
  have d0 := d
  obtain ⟨ms, hm, ok⟩ := d
  obtain ⟨g1, h1⟩ := s.keep g hm
  have d1 : Dice p H1 := ⟨ms, h1, ok⟩
  refine ⟨⟨s.g, s.i, hide_ex.trans s.h, fun x o h1 h2 h3 => s.n x o h1 (hide_of h2).2 h3, fun x o h1 h2 h3 => ?_⟩, g1, d1⟩
  by_cases z : x = p
  · subst z
    rw [d1.nocode h2] at h3
    cases h3
  · rw [hide_ne z] at h1
    exact s.c x o h1 h2 h3
theorem Dice.step (d : Dice p H) (s : Step G H G1 H1) (g : G p = none) : G1 p = none ∧ Dice p H1 := (s.toR g d).2
theorem Dice.mut {q : Addr} {o : HO} (d : Dice p H) (h : q ≠ p) : Dice p (upd H q o) := let ⟨ms, hm, ok⟩ := d; ⟨ms, (upd_ne (Ne.symm h)).trans hm, ok⟩
theorem Dice.some (d : Dice p H) : ∃ xs, H p = some (.lst xs) := let ⟨_, hm, _⟩ := d; ⟨_, hm⟩
def EvR (K : PySem.W.Frag) (p : Addr) (te : TE) (σ : L2.St) (G : Hp) (R : D → Prop) : Prop := ∀ H, Ex G H → G p = none → Dice p H → ∀ Q : VK, (∀ v d G' H', Step G (hide p H) G' H' → G' p = none → Dice p H' → R d → Rp K G' v d → Q v H') → te σ H Q
def EvRs (K : PySem.W.Frag) (p : Addr) (ta : TA) (σ : L2.St) (G : Hp) (R : List D → Prop) : Prop := ∀ H, Ex G H → G p = none → Dice p H → ∀ Q : List V → Hp → Prop, (∀ vs ds G' H', Step G (hide p H) G' H' → G' p = none → Dice p H' → R ds → RpA K G' vs ds → Q vs H') → ta σ H Q
variable {R RA RB : D → Prop} {Rs Rs1 : List D → Prop}
theorem EvR.mono (e : Ex G G1) (h : EvR K p te σ G R) : EvR K p te σ G1 R := fun H a g dc Q q => by
  have g0 : G p = none := fresh_back e g
  refine h H (e.trans a) g0 dc Q fun v d G' H' s g' dc' r rp => ?_
  obtain ⟨G2, s2, e2, n2⟩ := s.widen e (ex_hide a g dc)
  exact q v d G2 H' s2 (n2 p hide_p g') dc' r (rp.exk e2)
theorem EvRs.mono (e : Ex G G1) (h : EvRs K p as σ G Rs) : EvRs K p as σ G1 Rs := fun H a g dc Q q => by
  have g0 : G p = none := fresh_back e g
  refine h H (e.trans a) g0 dc Q fun v d G' H' s g' dc' r rp => ?_
  obtain ⟨G2, s2, e2, n2⟩ := s.widen e (ex_hide a g dc)
  exact q v d G2 H' s2 (n2 p hide_p g') dc' r (rp.exk e2)
theorem EvR.imp (h : EvR K p te σ G RA) (i : ∀ d, RA d → R d) : EvR K p te σ G R := fun H a g dc Q q => h H a g dc Q fun v d G' H' s g' dc' r rp => q v d G' H' s g' dc' (i d r) rp
theorem r_of (h : EvD K te σ G d) (hr : R d) : EvR K p te σ G R := fun H e g dc Q q => h H e Q fun v G' H' s r => by
  obtain ⟨s1, g1, d1⟩ := s.toR g dc
  exact q v d G' H' s1 g1 d1 hr r
theorem rs_nil (h : Rs []) : EvRs K p tNil σ G Rs := fun H e g dc Q q => q [] [] G H (Step.start e g dc) g dc h .nil
theorem rs_cons (h1 : EvR K p te σ G RA) (h2 : EvRs K p as σ G Rs1) (hr : ∀ d ds, RA d → Rs1 ds → Rs (d :: ds)) : EvRs K p (tCons te as) σ G Rs := fun H e g dc Q q =>
  h1 H e g dc _ fun v d G1 H1 s1 g1 d1 r1 rp1 => (h2.mono s1.g) H1 s1.i g1 d1 _ fun vs ds G2 H2 s2 g2 d2 r2 rp2 => q (v :: vs) (d :: ds) G2 H2 (s1.transR s2 d1) g2 d2 (hr d ds r1 r2) (.cons (rp1.ex s2.g) rp2)
theorem rs_one (h1 : EvR K p te σ G RA) (hr : ∀ d, RA d → Rs [d]) : EvRs K p (tCons te tNil) σ G Rs := rs_cons h1 (rs_nil (Rs := fun ds => ds = []) rfl) fun d ds h z => by subst z; exact hr d h
/-- two values, an operation -/
theorem r_op {r : R2} (ha : EvR K p ta σ G RA) (hb : EvR K p tb σ G RB) (hr : ∀ x y d1 d2 G1 H1 Q, Ex G G1 → Ex G1 H1 → RA d1 → RB d2 → Rp K G1 x d1 → Rp K G1 y d2 → (∀ v d, R d → Rp K G1 v d → Q v H1) → r x y H1 Q) : EvR K p (tOp r ta tb) σ G R := fun H e g dc Q q =>
  ha H e g dc _ fun x d1 G1 H1 s1 g1 dc1 r1 rp1 => (hb.mono s1.g) H1 s1.i g1 dc1 _ fun y d2 G2 H2 s2 g2 dc2 r2 rp2 => hr x y d1 d2 G2 H2 Q (s1.g.trans s2.g) s2.i r1 r2 (rp1.ex s2.g) rp2 fun v d rd rpd => q v d G2 H2 (s1.transR s2 dc1) g2 dc2 rd rpd
/-- a number below n -/
def Lt (n : Nat) (d : D) : Prop := ∃ r : Nat, d = .int r ∧ r < n
/-- a number within bounds -/
def Btw (lo hi : Nat) (d : D) : Prop := ∃ r : Nat, d = .int r ∧ lo ≤ r ∧ r ≤ hi
theorem r_add {a b c e : Nat} (ha : EvR K p ta σ G (Btw a b)) (hb : EvR K p tb σ G (Btw c e)) : EvR K p (tOp (rAddA K) ta tb) σ G (Btw (a + c) (b + e)) :=
  r_op ha hb fun x y d1 d2 G1 H1 Q e1 e2 r1 r2 rp1 rp2 q => by
    obtain ⟨i, rfl, h1, h2⟩ := r1
    obtain ⟨j, rfl, h3, h4⟩ := r2
    exact .inl ⟨i, j, rp1.int_of, rp2.int_of, q _ (.int ((i + j : Nat) : Int)) ⟨i + j, rfl, by omega, by omega⟩ (.int _)⟩
theorem r_n {n : Nat} (h : EvD K te σ G (.int n)) : EvR K p te σ G (Btw n n) := r_of h ⟨n, rfl, Nat.le_refl _, Nat.le_refl _⟩
/-- one of a list that is written out -/
theorem r_pick (ha : EvRs K p as σ G fun ds => ds.length = n ∧ ∀ d ∈ ds, R d) (hb : EvR K p tb σ G (Lt n)) (hn : n ≤ 1000) : EvR K p (tOp (rIx K) (tLst as) tb) σ G R := fun H e g dc Q q =>
  ha H e g dc _ fun vs ds G1 H1 s1 g1 d1 ⟨hl, hr⟩ rp1 => by
    refine ⟨by rw [rp1.len, hl, sizeLine_eq]; omega, fun l hl' => ?_⟩
    have sN := Step.new (o := .lst vs) s1.i hl'
    obtain ⟨sR, gR, d2⟩ := sN.toR g1 d1
    refine (hb.mono (s1.g.trans sN.g)) (upd H1 l (.lst vs)) sN.i gR d2 _ fun y d2' G2 H2 s3 g2 d3 r2 rp2 => ?_
    obtain ⟨i, rfl, hi⟩ := r2
    have hx := s3.g l _ upd_same
    obtain ⟨dd, hdd⟩ : ∃ dd, ds[i]? = some dd := ⟨ds[i]'(by omega), List.getElem?_eq_getElem _⟩
    obtain ⟨v, hv, rv⟩ := rp1.at hdd
    have rv2 : Rp K G2 v dd := rv.ex (sN.g.trans s3.g)
    exact .inl ⟨l, vs, (i : Int), v, rfl, rp2.int_of, .of (s3.i _ _ hx), atI_nat hv, q v dd G2 H2 ((s1.transR sR d1).transR s3 d2) g2 d3 (hr dd (List.mem_of_getElem? hdd)) rv2⟩
/-! ### defs that draw -/
def spR (K : PySem.W.Frag) (Pre : List D → Prop) (R : List D → D → Prop) : Sp := fun vs H Q _ => ∃ p ws G ds, vs = .ref p :: ws ∧ Ex G H ∧ G p = none ∧ Dice p H ∧ RpA K G ws ds ∧ Pre ds ∧
  ∀ v d G' H', Step G (hide p H) G' H' → G' p = none → Dice p H' → R ds d → Rp K G' v d → Q v H'
theorem r_call {Pre : List D → Prop} {RR : List D → D → Prop} {E : XK} {i : Nat} (hi : σ[i]? = some (some (.ref p))) (h : EvRs K p as σ G fun ds => Pre ds ∧ ∀ d, RR ds d → R d) : EvR K p (tCall (spR K Pre RR) [] E (tCons (tVar i) as)) σ G R := fun H e g dc Q q =>
  ⟨_, hi, h H e g dc _ fun vs ds G1 H1 s1 g1 d1 r1 rp1 => ⟨p, vs, G1, ds, by rw [List.append_nil], s1.i, g1, d1, rp1, r1.1, fun v d G2 H2 s2 g2 d2 r2 rp2 => q v d G2 H2 (s1.transR s2 d1) g2 d2 (r1.2 d r2) rp2⟩⟩
theorem r_call1 {Pre : List D → Prop} {RR : List D → D → Prop} {E : XK} {i : Nat} (hi : σ[i]? = some (some (.ref p))) (h : EvAs K as σ G ds) (hp : Pre ds) : EvR K p (tCall (spR K Pre RR) [] E (tCons (tVar i) as)) σ G (RR ds) := fun H e g dc Q q =>
  ⟨_, hi, h H e _ fun vs G1 H1 s rp1 => by
    obtain ⟨s1, g1, d1⟩ := s.toR g dc
    exact ⟨p, vs, G1, ds, by rw [List.append_nil], s1.i, g1, d1, rp1, hp, fun v d G2 H2 s2 g2 d2 r2 rp2 => q v d G2 H2 (s1.transR s2 d1) g2 d2 r2 rp2⟩⟩
theorem r_tup (h : EvRs K p as σ G fun ds => ds.length ≤ 1000 ∧ R (.tup ds)) : EvR K p (tTup as) σ G R := fun H e g dc Q q =>
  h H e g dc _ fun vs ds G1 H1 s1 g1 d1 r1 rp1 => ⟨by rw [rp1.len, sizeLine_eq]; have := r1.1; omega, fun l hl => by
    have sN := Step.new (o := .tup vs) s1.i hl
    obtain ⟨sR, gR, d2⟩ := sN.toR g1 d1
    exact q _ (.tup ds) _ _ (s1.transR sR d1) gR d2 r1.2 (.tup upd_same (rp1.ex sN.g))⟩
variable {Dn : Ends} {tu tw tz : TS}
theorem qr_asg {i : Nat} (e : Ex G H) (g : G p = none) (dc : Dice p H) (h : EvR K p te σ G R) (k : ∀ v d G1 H1, Step G (hide p H) G1 H1 → G1 p = none → Dice p H1 → R d → Rp K G1 v d → tz Dn (σ.set i (some v)) H1) : tSeq (tAsg te (gName i)) tz Dn σ H := h H e g dc _ fun v d G1 H1 s g1 d1 r rp => k v d G1 H1 s g1 d1 r rp
theorem sr_ret (e : Ex G H) (g : G p = none) (dc : Dice p H) (h : EvR K p te σ G R) (k : ∀ v d G1 H1, Step G (hide p H) G1 H1 → G1 p = none → Dice p H1 → R d → Rp K G1 v d → Dn.rt v H1) : tRet te Dn σ H := h H e g dc _ k
/-- p[j] = e, p an own list in slot i, e may read it -/
theorem s_setO {i j : Nat} {xs : List V} (e : Ex G H) (hp : G p = none) (hx : H p = some (.lst xs)) (hi : σ[i]? = some (some (.ref p))) (h : EvD K te σ (upd G p (.lst xs)) d) (hf : d.flat = true) (hj : j < xs.length)
    (k : ∀ G1 H1, Step G H G1 H1 → G1 p = none → Dn.nx σ (upd H1 p (.lst (xs.set j d.toV)))) : tAsg te (gSub (tVar i) (tC (.int j)) rSetL) Dn σ H :=
  h H (ex_own e hx) _ fun v G1 H1 s r => by
    obtain ⟨G2, s2, g2, x2, _⟩ := s.thaw hp hx
    rw [(r.flat hf).1]
    exact ⟨_, hi, p, xs, (j : Int), j, rfl, rfl, x2, Evl.ixN_nat hj, k G2 H1 s2 g2⟩
theorem q_setO {i j : Nat} {xs : List V} (e : Ex G H) (hp : G p = none) (hx : H p = some (.lst xs)) (hi : σ[i]? = some (some (.ref p))) (h : EvD K te σ (upd G p (.lst xs)) d) (hf : d.flat = true) (hj : j < xs.length)
    (k : ∀ G1 H1, Step G H G1 H1 → G1 p = none → tz Dn σ (upd H1 p (.lst (xs.set j d.toV)))) : tSeq (tAsg te (gSub (tVar i) (tC (.int j)) rSetL)) tz Dn σ H := s_setO (Dn := { Dn with nx := tz Dn }) e hp hx hi h hf hj k
theorem s_retO {o : HO} (e : Ex G H) (hp : G p = none) (hx : H p = some o) (h : EvD K te σ (upd G p o) d) (hf : d.flat = true) (k : ∀ v G1 H1, Step G H G1 H1 → G1 p = none → H1 p = some o → Rp K G1 v d → Dn.rt v H1) (nc : isCode o = false := by rfl) : tRet te Dn σ H := h H (ex_own e hx nc) _ fun v G1 H1 s r => by
  obtain ⟨G2, s2, g2, x2, _⟩ := s.thaw hp hx nc
  exact k v G2 H1 s2 g2 x2 (r.flat_any hf)
/-- the ints of the script -/
theorem i_script {i : Nat} {q : Addr} {ns : List Int} (hi : σ[i]? = some (some (.ref q))) (hs : SqL K G q (ns.map V.int)) : EvI K (iSeq K (tVar i)) σ G ns.length (nth (ns.map D.int)) := fun H e R k =>
  .inl ⟨_, hi, q, rfl, ⟨_, ex_l e hs⟩, k _ G H (Step.refl e)
    { goes := fun i H hi e => ⟨ns.map V.int, (ns.map V.int)[i]'(by rw [List.length_map]; exact hi), ex_l e hs, by simp [hi]⟩
      stops := fun H e => ⟨ns.map V.int, ex_l e hs, by rw [List.length_map]; exact Nat.le_refl _⟩
      yields := fun i G1 H x H' hi e1 e2 y => by
        obtain ⟨rfl, y⟩ := y
        have hx := y _ (ex_l e2 (ex_l e1 hs))
        rw [List.getElem?_map, List.getElem?_eq_getElem hi] at hx
        have hx' : V.int ns[i] = x := Option.some.inj hx
        subst hx'
        exact ⟨G1, Step.refl e2, by rw [nth_map (List.getElem?_eq_getElem hi)]; exact .int _⟩ }⟩
end
end J

/-! Loops that draw; new lists by draws. -/
namespace J
open PySem L2 Evl
/-- a step beside the draws -/
structure Sd [Tbs] (p : Addr) (G H G' H' : Hp) : Prop where
  s : Step G (hide p H) G' H'
  g : G' p = none
  d : Dice p H'
section
variable [Tbs] {K : PySem.W.Frag} {σ : L2.St} {p : Addr} {G G0 H0 G1 G2 H H1 H2 : Hp} {ta tb te tx : TE} {t u : TT} {x y z v : V} {d d1 d2 d3 : D} {ds es : List D} {as bs : TA} {j k m : Int} {a b c : Bool} {n : Nat} {Y : Nat → D} {wi : TI} {g : TG} {js : List Nat}
variable {R RA RB : D → Prop} {Rs Rs1 : List D → Prop} {Dn : Ends} {tu tw tz : TS}
theorem Sd.trans (a : Sd p G0 H0 G H) (b : Sd p G H G1 H1) : Sd p G0 H0 G1 H1 := ⟨a.s.transR b.s a.d, b.g, b.d⟩
theorem Sd.then (a : Sd p G0 H0 G H) (b : Step G H G1 H1) : Sd p G0 H0 G1 H1 := let ⟨s1, g1, d1⟩ := b.toR a.g a.d; ⟨a.s.transR s1 a.d, g1, d1⟩
theorem Sd.refl (e : Ex G H) (g : G p = none) (d : Dice p H) : Sd p G H G H := ⟨Step.start e g d, g, d⟩
theorem Sd.keep {q : Addr} {o : HO} (s : Sd p G H G1 H1) (n : q ≠ p) (g : G q = none) (x : H q = some o) (t : isTup o = false := by rfl) (tt : isTbl o = false := by rfl) : G1 q = none ∧ H1 q = some o := s.s.keep g ((hide_ne n).trans x) t tt
theorem Sd.ii (s : Sd p G H G1 H1) : Ex G1 H1 := s.s.i
theorem Sd.gg (s : Sd p G H G1 H1) : Ex G G1 := s.s.g
theorem Sd.pre {q : Addr} (s : Sd p G H G1 H1) (h : H1 q = none) (n : q ≠ p) : H q = none := by
  have h' := fresh_back s.s.h h
  rwa [hide_ne n] at h'
theorem Sd.mut {q : Addr} {o : HO} (s : Sd p G H G1 H1) (n : q ≠ p) (h : H q = none) (g : G1 q = none) (nc : isCode o = false := by rfl) : Sd p G H G1 (upd H1 q o) :=
  ⟨s.s.mut ((hide_ne n).trans h) g nc, s.g, s.d.mut n⟩
theorem Dice.ne {q : Addr} (d : Dice p H) (h : H q = none) : q ≠ p := fun z => by
  obtain ⟨xs, hx⟩ := d.some
  rw [z, hx] at h
  cases h
/-- an own object beside the draws -/
theorem Sd.own {q : Addr} {o : HO} (s : Sd p G0 H0 G H) (h : H q = none) (nc : isCode o = false := by rfl) : Sd p G0 H0 G (upd H q o) := s.then (Step.own s.s.i h nc)
theorem Step.thawR {q : Addr} {o : HO} {G' H' : Hp} (n : q ≠ p) (hq : G q = none) (hx : H q = some o) (s : Step (upd G q o) (hide p H) G' H') (nc : isCode o = false := by rfl) : ∃ G2, Step G (hide p H) G2 H' ∧ G2 q = none ∧ H' q = some o ∧ (∀ b u, b ≠ q → G' b = some u → G2 b = some u) ∧ ∀ b, G' b = none → G2 b = none := s.thaw hq ((hide_ne n).trans hx) nc
/-- what is drawn while an own object is read -/
theorem EvR.own {q : Addr} {o : HO} (h : EvR K p te σ (upd G q o) R) (hf : ∀ d, R d → d.flat = true) (n : q ≠ p) (e : Ex G H) (gq : G q = none) (xq : H q = some o) (gp : G p = none) (dc : Dice p H) (Q : VK)
    (k : ∀ v d G1 H1, Sd p G H G1 H1 → G1 q = none → H1 q = some o → R d → Rp K G1 v d → Q v H1) (nc : isCode o = false := by rfl) : te σ H Q :=
  h H (ex_own e xq nc) (by rw [upd_ne (Ne.symm n)]; exact gp) dc Q fun v d G1 H1 s g1 d1 r rp => by
    obtain ⟨G2, s2, g2, x2, _, c2⟩ := s.thawR n gq xq nc
    exact k v d G2 H1 ⟨s2, c2 p g1, d1⟩ g2 x2 r (rp.flat_any (hf d r))
/-! ### new lists -/
def EvRF (K : PySem.W.Frag) (p : Addr) (te : TE) (σ : L2.St) (G : Hp) (R : List D → Prop) : Prop := ∀ H, Ex G H → G p = none → Dice p H → ∀ Q : VK, (∀ q xs ds G' H', Sd p G H G' H' → H q = none → G' q = none → H' q = some (.lst xs) → R ds → RpA K G' xs ds → Q (.ref q) H') → te σ H Q
theorem EvRF.toR (h : EvRF K p te σ G Rs) (i : ∀ ds, Rs ds → R (.lst ds)) : EvR K p te σ G R := fun H e g dc Q q => h H e g dc Q fun r xs ds G1 H1 s h1 h2 h3 rd rp => by
  have n : r ≠ p := dc.ne h1
  exact q _ (.lst ds) _ H1 (s.s.freeze ((hide_ne n).trans h1) h2 h3) (by rw [upd_ne (Ne.symm n)]; exact s.g) s.d (i ds rd) (.lst upd_same (rp.ex (Ex.new h2)))
theorem EvRF.imp (h : EvRF K p te σ G Rs) (i : ∀ ds, Rs ds → Rs1 ds) : EvRF K p te σ G Rs1 := fun H e g dc Q q => h H e g dc Q fun r xs ds G1 H1 s h1 h2 h3 rd rp => q r xs ds G1 H1 s h1 h2 h3 (i ds rd) rp
def spRF (K : PySem.W.Frag) (Pre : List D → Prop) (R : List D → List D → Prop) : Sp := fun vs H Q _ => ∃ p ws G ds, vs = .ref p :: ws ∧ Ex G H ∧ G p = none ∧ Dice p H ∧ RpA K G ws ds ∧ Pre ds ∧
  ∀ q xs es G' H', Sd p G H G' H' → H q = none → G' q = none → H' q = some (.lst xs) → R ds es → RpA K G' xs es → Q (.ref q) H'
theorem rf_call {Pre : List D → Prop} {RR : List D → List D → Prop} {E : XK} {i : Nat} (hi : σ[i]? = some (some (.ref p))) (h : EvRs K p as σ G fun ds => Pre ds ∧ ∀ d, RR ds d → Rs d) : EvRF K p (tCall (spRF K Pre RR) [] E (tCons (tVar i) as)) σ G Rs := fun H e g dc Q q =>
  ⟨_, hi, h H e g dc _ fun vs ds G1 H1 s1 g1 d1 r1 rp1 => ⟨p, vs, G1, ds, by rw [List.append_nil], s1.i, g1, d1, rp1, r1.1, fun r xs es G2 H2 s2 h1 h2 h3 r2 rp2 => by
    have S : Sd p G H G1 H1 := ⟨s1, g1, d1⟩
    exact q r xs es G2 H2 (S.trans s2) (S.pre h1 (d1.ne h1)) h2 h3 (r1.2 es r2) rp2⟩⟩
theorem rs_of (h : EvAs K as σ G ds) (hp : Rs ds) : EvRs K p as σ G Rs := fun H e g dc Q q => h H e _ fun vs G1 H1 s r => by
  obtain ⟨s1, g1, d1⟩ := s.toR g dc
  exact q vs ds G1 H1 s1 g1 d1 hp r
theorem rf_call1 {Pre : List D → Prop} {RR : List D → List D → Prop} {E : XK} {i : Nat} (hi : σ[i]? = some (some (.ref p))) (h : EvAs K as σ G ds) (hp : Pre ds) : EvRF K p (tCall (spRF K Pre RR) [] E (tCons (tVar i) as)) σ G (RR ds) :=
  rf_call hi (rs_of h ⟨hp, fun _ h => h⟩)
/-! ### tests -/
def EvBR (K : PySem.W.Frag) (p : Addr) (tt : TT) (σ : L2.St) (G : Hp) : Prop := ∀ H, Ex G H → G p = none → Dice p H → ∀ Q : Bool → Hp → Prop, (∀ b G' H', Sd p G H G' H' → Q b H') → tt σ H Q
def IsBl (d : D) : Prop := ∃ b, d = .bl b
theorem br_test (h : EvR K p te σ G IsBl) : EvBR K p (tTest te) σ G := fun H e g dc Q q => h H e g dc _ fun v d G1 H1 s1 g1 d1 ⟨b, hb⟩ rp => ⟨b, by subst hb; exact rp.bl_of, q b G1 H1 ⟨s1, g1, d1⟩⟩
theorem br_B (h : EvR K p te σ G IsBl) : EvBR K p (tB te) σ G := fun H e g dc Q q => h H e g dc _ fun v d G1 H1 s1 g1 d1 ⟨b, hb⟩ rp => ⟨b, by subst hb; exact rp.bl_of, q b G1 H1 ⟨s1, g1, d1⟩⟩
theorem br_of (h : EvB t σ G b) : EvBR K p t σ G := fun H e g dc Q q => h H e _ fun G1 H1 s => q b G1 H1 ((Sd.refl e g dc).then s)
theorem r_cmp {f : Int → Int → Bool} {a1 b1 a2 b2 : Nat} (ha : EvR K p ta σ G (Btw a1 b1)) (hb : EvR K p tb σ G (Btw a2 b2)) : EvR K p (tOp (rI0 fun i j => .bl (f i j)) ta tb) σ G IsBl :=
  r_op ha hb fun x y d1 d2 G1 H1 Q e1 e2 r1 r2 rp1 rp2 q => by
    obtain ⟨i, rfl, _⟩ := r1
    obtain ⟨j, rfl, _⟩ := r2
    exact ⟨i, j, rp1.int_of, rp2.int_of, q _ (.bl (f i j)) ⟨_, rfl⟩ (.bl _)⟩
theorem r_lt (h : EvR K p te σ G (Lt n)) : EvR K p te σ G (Btw 0 (n - 1)) := h.imp fun d ⟨r, h1, h2⟩ => ⟨r, h1, Nat.zero_le _, by omega⟩
/-! ### for, while -/
/-- a range whose end is drawn -/
theorem s_rngR {lo hi : Nat} (hb : hi ≤ 1000000) (e : Ex G H) (gp : G p = none) (dc : Dice p H) (h : EvR K p te σ G (Btw lo hi)) (k : ∀ r G1 H1, lo ≤ r → r ≤ hi → Sd p G H G1 H1 → tFor (iRng1 (tCons (tC (.int (r : Nat))) tNil)) g tu Dn σ H1) : tFor (iRng1 (tCons te tNil)) g tu Dn σ H :=
  h H e gp dc _ fun v d G1 H1 s1 g1 d1 rd rp => by
    obtain ⟨r, rfl, h1, h2⟩ := rd
    have z := rp.int_of
    subst z
    exact k r G1 H1 h1 h2 ⟨s1, g1, d1⟩
theorem q_rngR {lo hi : Nat} (hb : hi ≤ 1000000) (e : Ex G H) (gp : G p = none) (dc : Dice p H) (h : EvR K p te σ G (Btw lo hi)) (k : ∀ r G1 H1, lo ≤ r → r ≤ hi → Sd p G H G1 H1 → tSeq (tFor (iRng1 (tCons (tC (.int (r : Nat))) tNil)) g tu) tz Dn σ H1) : tSeq (tFor (iRng1 (tCons te tNil)) g tu) tz Dn σ H :=
  s_rngR (Dn := { Dn with nx := tz Dn }) hb e gp dc h k
theorem s_while (S : Step G0 H0 G H) (Pv : Nat → L2.St → Hp → Hp → Prop) (m0 : Nat) (h0 : Pv m0 σ G H)
    (hs : ∀ m σ' G' H', Step G0 H0 G' H' → Ex G G' → Pv m σ' G' H' → t σ' H' fun b H1 => if b = true then
      ∃ N : L2.St → Hp → Prop, (∀ σ2 H3, N σ2 H3 → ∃ m', m' < m ∧ ∃ G3, Step G0 H0 G3 H3 ∧ Ex G G3 ∧ Pv m' σ2 G3 H3) ∧ tu { Dn with nx := N, ct := N, bk := Dn.nx } σ' H1 else Dn.nx σ' H1) : tWhile t tu Dn σ H :=
  ⟨fun m σ' H' => ∃ G', Step G0 H0 G' H' ∧ Ex G G' ∧ Pv m σ' G' H', ⟨m0, G, S, Ex.refl _, h0⟩, fun m σ' H' ⟨G', S', e', p'⟩ => hs m σ' G' H' S' e' p'⟩
theorem q_while (S : Step G0 H0 G H) (Pv : Nat → L2.St → Hp → Hp → Prop) (m0 : Nat) (h0 : Pv m0 σ G H)
    (hs : ∀ m σ' G' H', Step G0 H0 G' H' → Ex G G' → Pv m σ' G' H' → t σ' H' fun b H1 => if b = true then
      ∃ N : L2.St → Hp → Prop, (∀ σ2 H3, N σ2 H3 → ∃ m', m' < m ∧ ∃ G3, Step G0 H0 G3 H3 ∧ Ex G G3 ∧ Pv m' σ2 G3 H3) ∧ tu { Dn with nx := N, ct := N, bk := tz Dn } σ' H1 else tz Dn σ' H1) : tSeq (tWhile t tu) tz Dn σ H := s_while (Dn := { Dn with nx := tz Dn }) S Pv m0 h0 hs
/-! ### comprehensions whose test draws -/
theorem f_lcR {tt : TT} {vs : List Nat} (E : Nat → List D) (f : Nat → D) (hi : EvI K wi σ G n Y) (hg : ∀ i, i < n → EvG K g (Y i) js (E i)) (hz : n ≤ 1000000)
    (hl : ∀ i, i < n → (E i).length = js.length)
    (hw : ∀ us : List V, us.length = js.length → wipe (setAll (wipe σ vs) js us) vs = wipe σ vs)
    (ht : ∀ i, i < n → ∀ G1, Ex G G1 → ∀ us, RpA K G1 us (E i) → EvBR K p tt (setAll (wipe σ vs) js us) G1)
    (he : ∀ i, i < n → ∀ G1, Ex G G1 → ∀ us, RpA K G1 us (E i) → EvD K te (setAll (wipe σ vs) js us) G1 (f i)) : EvRF K p (tLc wi g tt te vs) σ G (fun ds => ∃ b, ds = pick n b f) := fun H e gp dc Q q =>
  hi H e _ fun J G1 H1 s1 wk Dl hD => by
    have S1 := (Sd.refl e gp dc).then s1
    have nD : Dl ≠ p := S1.d.ne hD
    have hDh : H Dl = none := S1.pre hD nD
    refine ⟨fun i m H' => m = n - i ∧ i ≤ n ∧ ∃ G' xs b, Sd p G H G' H' ∧ Ex G1 G' ∧ G' Dl = none ∧ H' Dl = some (.lst xs) ∧ RpA K G' xs (pick i b f), ⟨n, by omega, Nat.zero_le _, G1, [], fun _ => false, S1.own hD, Ex.refl _, Step.back S1.s.i hD, upd_same, .nil⟩, ?_⟩
    rintro i m H' ⟨rfl, hi', G', xs, b, S2, e2, hD1, hD2, r2⟩
    by_cases hlt : i < n
    · refine .inr ⟨wk.goes i H' hlt (e2.trans S2.ii), fun H2 => i + 1 ≤ n ∧ ∃ G' xs b, Sd p G H G' H2 ∧ Ex G1 G' ∧ G' Dl = none ∧ H2 Dl = some (.lst xs) ∧ RpA K G' xs (pick (i + 1) b f), fun H2 pp => ⟨n - (i + 1), by omega, rfl, pp⟩, fun x H2 y => ?_⟩
      obtain ⟨G2, s3, r3⟩ := wk.yields i G' H' x H2 hlt e2 S2.ii y
      refine hg i hlt G2 H2 x _ _ s3.i r3 fun us ru => ⟨hw us (by rw [ru.len]; exact hl i hlt), ?_⟩
      obtain ⟨g3, k3⟩ := s3.keep hD1 hD2
      have S3 := S2.then s3
      refine (ht i hlt G2 S3.gg us ru) H2 S3.ii S3.g S3.d _ fun bb G3 H3 s4 => ?_
      obtain ⟨g4, k4⟩ := s4.keep nD g3 k3
      have S4 := S3.trans s4
      cases bb with
      | true =>
        show te (setAll (wipe σ vs) js us) H3 _
        refine ((he i hlt G2 S3.gg us ru).mono s4.gg) H3 S4.ii _ fun v G4 H4 s5 r5 => ?_
        obtain ⟨g5, k5⟩ := s5.keep g4 k4
        have S5 := S4.then s5
        refine ⟨xs, k5, ?_, hlt, G4, xs ++ [v], fun j => if j = i then true else b j, S5.mut nD hDh g5, e2.trans (s3.g.trans (s4.gg.trans s5.g)), g5, upd_same, ?_⟩
        · rw [r2.len]
          have := pick_len (n := i) b f
          rw [sizeLine_eq]
          omega
        · have z : pick i (fun j => if j = i then true else b j) f = pick i b f := by
            unfold pick
            congr 1
            refine List.filter_congr fun j hj => ?_
            rw [if_neg (by have := List.mem_range.mp hj; omega)]
          rw [pick_yes (if_pos rfl), z]
          exact (r2.ex (s3.g.trans (s4.gg.trans s5.g))).snoc r5
      | false =>
        refine ⟨hlt, G3, xs, fun j => if j = i then false else b j, S4, e2.trans (s3.g.trans s4.gg), g4, k4, ?_⟩
        have z : pick i (fun j => if j = i then false else b j) f = pick i b f := by
            unfold pick
            congr 1
            refine List.filter_congr fun j hj => ?_
            rw [if_neg (by have := List.mem_range.mp hj; omega)]
        rw [pick_no (if_pos rfl), z]
        exact r2.ex (s3.g.trans s4.gg)
    · have z : i = n := by omega
      subst z
      exact .inl ⟨wk.stops H' (e2.trans S2.ii), q Dl xs _ G' H' S2 hDh hD1 hD2 ⟨b, rfl⟩ r2⟩
/-! ### draws within bounds -/
theorem r_w {a1 b1 a2 b2 : Nat} (h : EvR K p te σ G (Btw a1 b1)) (h1 : a2 ≤ a1) (h2 : b1 ≤ b2) : EvR K p te σ G (Btw a2 b2) := h.imp fun d ⟨r, e, h3, h4⟩ => ⟨r, e, by omega, by omega⟩
theorem pb_nil : EvRs K p tNil σ G fun ds => ds.length = 0 ∧ ∀ d ∈ ds, R d := rs_nil ⟨rfl, fun _ h => nomatch h⟩
theorem pb_cons (h1 : EvR K p te σ G R) (h2 : EvRs K p as σ G fun ds => ds.length = n ∧ ∀ d ∈ ds, R d) : EvRs K p (tCons te as) σ G fun ds => ds.length = n + 1 ∧ ∀ d ∈ ds, R d :=
  rs_cons h1 h2 fun d ds hd ⟨hl, hr⟩ => ⟨by rw [List.length_cons, hl], fun x hx => by
    cases hx with
    | head => exact hd
    | tail _ h => exact hr x h⟩
theorem r_ixL (ha : EvD K ta σ G (.lst ds)) (hb : EvR K p tb σ G (Lt ds.length)) (hr : ∀ d ∈ ds, R d) : EvR K p (tOp (rIx K) ta tb) σ G R :=
  r_op (RA := fun d => d = .lst ds) (r_of ha rfl) hb fun x y d1 d2 G1 H1 Q e1 e2 q1 q2 rp1 rp2 q => by
    subst q1
    obtain ⟨i, rfl, hi⟩ := q2
    obtain ⟨l, xs, rfl, hs, hx⟩ := rp1.lst_of
    obtain ⟨v, hv, rv⟩ := hx.at (List.getElem?_eq_getElem hi)
    exact .inl ⟨l, xs, (i : Int), v, rfl, rp2.int_of, .of (e2 _ _ hs), atI_nat hv, q v ds[i] (hr _ (List.getElem_mem hi)) rv⟩
theorem s_appR {i : Nat} {q : Addr} {xs : List V} (e : Ex G H) (gp : G p = none) (dc : Dice p H) (nq : q ≠ p) (gq : G q = none) (xq : H q = some (.lst xs)) (hi : σ[i]? = some (some (.ref q))) (h : EvR K p te σ G R) (hz : xs.length < 100000)
    (k : ∀ v d G1 H1, Sd p G H G1 H1 → G1 q = none → R d → Rp K G1 v d → Dn.nx σ (upd H1 q (.lst (xs ++ [v])))) : tDrop (tBM K "list" rAppend (tVar i) (tCons te tNil)) Dn σ H :=
  ⟨_, hi, Or.inl ⟨rfl, xs, .of xq⟩, h H e gp dc _ fun v d G1 H1 s g1 d1 rd r => by
    have S : Sd p G H G1 H1 := ⟨s, g1, d1⟩
    obtain ⟨gq1, xq1⟩ := S.keep nq gq xq
    exact ⟨q, xs, v, rfl, rfl, xq1, sz_lt hz, k v d G1 H1 S gq1 rd r⟩⟩
theorem q_appR {i : Nat} {q : Addr} {xs : List V} (e : Ex G H) (gp : G p = none) (dc : Dice p H) (nq : q ≠ p) (gq : G q = none) (xq : H q = some (.lst xs)) (hi : σ[i]? = some (some (.ref q))) (h : EvR K p te σ G R) (hz : xs.length < 100000)
    (k : ∀ v d G1 H1, Sd p G H G1 H1 → G1 q = none → R d → Rp K G1 v d → tz Dn σ (upd H1 q (.lst (xs ++ [v])))) : tSeq (tDrop (tBM K "list" rAppend (tVar i) (tCons te tNil))) tz Dn σ H := s_appR (Dn := { Dn with nx := tz Dn }) e gp dc nq gq xq hi h hz k
theorem Sd.freeze {q : Addr} {o : HO} (s : Sd p G0 H0 G H) (n : q ≠ p) (h : H0 q = none) (g : G q = none) (x : H q = some o) : Sd p G0 H0 (upd G q o) H :=
  ⟨s.s.freeze ((hide_ne n).trans h) g x, by rw [upd_ne (Ne.symm n)]; exact s.g, s.d⟩
/-- a drawn value, with the step as one -/
theorem qr_asg' {i : Nat} (S : Sd p G0 H0 G H) (h : EvR K p te σ G R) (k : ∀ v d G1 H1, Sd p G H G1 H1 → Sd p G0 H0 G1 H1 → R d → Rp K G1 v d → tz Dn (σ.set i (some v)) H1) : tSeq (tAsg te (gName i)) tz Dn σ H :=
  qr_asg S.ii S.g S.d h fun v d G1 H1 s g1 d1 r rp => k v d G1 H1 ⟨s, g1, d1⟩ (S.trans ⟨s, g1, d1⟩) r rp
theorem sr_ret' (S : Sd p G0 H0 G H) (h : EvR K p te σ G R) (k : ∀ v d G1 H1, Sd p G0 H0 G1 H1 → R d → Rp K G1 v d → Dn.rt v H1) : tRet te Dn σ H :=
  sr_ret S.ii S.g S.d h fun v d G1 H1 s g1 d1 r rp => k v d G1 H1 (S.trans ⟨s, g1, d1⟩) r rp
theorem q_newLR {i : Nat} (S : Sd p G0 H0 G H) (k : ∀ q H1, H q = none → H0 q = none → q ≠ p → G q = none → Sd p G0 H0 G H1 → Step G H G H1 → H1 q = some (.lst []) → tz Dn (σ.set i (some (.ref q))) H1) : tSeq (tAsg (tLst tNil) (gName i)) tz Dn σ H :=
  q_newL S.ii fun q H1 h1 h2 s h3 => k q H1 h1 (S.pre h1 (S.d.ne h1)) (S.d.ne h1) h2 (S.then s) s h3
theorem r_min2 {a1 b1 a2 b2 : Nat} (ha : EvR K p ta σ G (Btw a1 b1)) (hb : EvR K p tb σ G (Btw a2 b2)) : EvR K p (tCB (fun xs H Q => ∃ i j, xs = [.int i, .int j] ∧ Q (.int (if j < i then j else i)) H) (tCons ta (tCons tb tNil))) σ G (Btw (min a1 a2) (min b1 b2)) := fun H e g dc Q q =>
  ha H e g dc _ fun v d G1 H1 s1 g1 d1 ⟨i, e1, h1, h2⟩ rp1 => (hb.mono s1.g) H1 s1.i g1 d1 _ fun w d2 G2 H2 s2 g2 d2 ⟨j, e2, h3, h4⟩ rp2 => by
    subst e1 e2
    refine ⟨i, j, by rw [rp1.int_of, rp2.int_of], ?_⟩
    have z : (if (j : Int) < i then (j : Int) else i) = ((min i j : Nat) : Int) := by split <;> omega
    rw [z]
    exact q _ (.int ((min i j : Nat) : Int)) G2 H2 (s1.transR s2 d1) g2 d2 ⟨min i j, rfl, by omega, by omega⟩ (.int _)
theorem s_dputTR {i : Nat} {q : Addr} {kvs : List (List Key × V)} {ks : List Key} (e : Ex G H) (gp : G p = none) (dc : Dice p H) (nq : q ≠ p) (gq : G q = none) (xq : H q = some (.dT kvs)) (hi : σ[i]? = some (some (.ref q))) (hv : EvR K p te σ G R) (hf : ∀ d, R d → d.flat = true) (hk : EvD K tb σ G d2) (hkd : d2 = .tup (ks.map kD)) (hz : kvs.length < 1000000)
    (k : ∀ d G1 H1, Sd p G H G1 H1 → G1 q = none → R d → Dn.nx σ (upd H1 q (.dT (putK kvs ks d.toV)))) : sDPut (tVar i) tb te Dn σ H :=
  hv H e gp dc _ fun v d G1 H1 s1 g1 dc1 rd r1 => ⟨_, hi, (hk.mono s1.g) H1 s1.i _ fun y G2 H2 s2 r2 => by
    subst hkd
    obtain ⟨b, xs, rfl, hb, hxs⟩ := r2.tup_of
    have z := hxs.keys
    subst z
    have S : Sd p G H G2 H2 := (Sd.mk s1 g1 dc1).then s2
    obtain ⟨g2, x2⟩ := S.keep nq gq xq
    rw [(r1.flat (hf d rd)).1]
    exact ⟨q, _, rfl, DPut.t x2 (s2.i _ _ hb) (by rw [sizeLine_eq]; omega), k d G2 H2 S g2 rd⟩⟩
theorem r_pow6 : EvR K p (tOp (rI CPow fun i j => .int (i ^ j.toNat)) (tC (.int 10)) (tC (.int 6))) σ G (Btw 1000000 1000000) := r_n (EvD.int (e_pow (i := 10) (j := 6) e_int e_int ⟨by decide, by decide, by decide⟩) (by decide))
theorem q_newTR {i : Nat} (S : Sd p G0 H0 G H) (k : ∀ q H1, H q = none → H0 q = none → q ≠ p → G q = none → Sd p G0 H0 G H1 → Step G H G H1 → H1 q = some (.dT []) → tz Dn (σ.set i (some (.ref q))) H1) : tSeq (tAsg tDNewT (gName i)) tz Dn σ H :=
  q_newT S.ii fun q H1 h1 h2 s h3 => k q H1 h1 (S.pre h1 (S.d.ne h1)) (S.d.ne h1) h2 (S.then s) s h3
theorem qrf_asg {i : Nat} (S : Sd p G0 H0 G H) (h : EvRF K p te σ G Rs) (k : ∀ q xs ds G1 H1, Sd p G H G1 H1 → H q = none → G1 q = none → H1 q = some (.lst xs) → Rs ds → RpA K G1 xs ds → tz Dn (σ.set i (some (.ref q))) H1) : tSeq (tAsg te (gName i)) tz Dn σ H :=
  h H S.ii S.g S.d _ k
theorem srf_ret (S : Sd p G0 H0 G H) (h : EvRF K p te σ G Rs) (k : ∀ q xs ds G1 H1, Sd p G0 H0 G1 H1 → H0 q = none → G1 q = none → H1 q = some (.lst xs) → Rs ds → RpA K G1 xs ds → Dn.rt (.ref q) H1) : tRet te Dn σ H :=
  h H S.ii S.g S.d _ fun q xs ds G1 H1 s h1 h2 h3 h4 h5 => k q xs ds G1 H1 (S.trans s) (S.pre h1 (S.d.ne h1)) h2 h3 h4 h5
/-- t1, t2, .. = a drawn tuple -/
theorem qr_asgT (S : Sd p G0 H0 G H) (h : EvR K p te σ G R) (k : ∀ v d G1 H1, Sd p G H G1 H1 → Sd p G0 H0 G1 H1 → R d → Rp K G1 v d → g v σ H1 (tz Dn)) : tSeq (tAsg te g) tz Dn σ H :=
  h H S.ii S.g S.d _ fun v d G1 H1 s g1 d1 r rp => k v d G1 H1 ⟨s, g1, d1⟩ (S.trans ⟨s, g1, d1⟩) r rp
theorem r_lit {i : Int} (h : 0 ≤ i) : EvR K p (tC (.int i)) σ G (Btw i.toNat i.toNat) := r_n (EvD.int e_int (by omega))
theorem pbw_one {a1 b1 : Nat} (h : EvR K p te σ G (Btw a1 b1)) : EvRs K p (tCons te tNil) σ G fun ds => ds.length = 1 ∧ ∀ d ∈ ds, Btw a1 b1 d := pb_cons h pb_nil
theorem pbw_cons {a1 b1 a2 b2 n : Nat} (h : EvR K p te σ G (Btw a1 b1)) (h2 : EvRs K p as σ G fun ds => ds.length = n ∧ ∀ d ∈ ds, Btw a2 b2 d) : EvRs K p (tCons te as) σ G fun ds => ds.length = n + 1 ∧ ∀ d ∈ ds, Btw (min a1 a2) (max b1 b2) d :=
  rs_cons (r_w h (Nat.min_le_left _ _) (Nat.le_max_left _ _)) h2 fun d ds hd ⟨hl, hr⟩ => ⟨by rw [List.length_cons, hl], fun x hx => by
    cases hx with
    | head => exact hd
    | tail _ h =>
      obtain ⟨r, e, h1, h2⟩ := hr x h
      exact ⟨r, e, by omega, by omega⟩⟩
end
def Pre_off (ds : List D) : Prop := ∃ m : Nat, ds = [.int m] ∧ 0 < m ∧ m ≤ 1000000
def R_off (ds : List D) (d : D) : Prop := ∃ m : Nat, ds = [.int m] ∧ Lt m d
section
variable [Tbs] {K : PySem.W.Frag}
theorem r_off {σ : L2.St} {p : Addr} {G : Hp} {te : TE} {E : XK} {lo hi i : Nat} (hs : σ[i]? = some (some (.ref p))) (h : EvR K p te σ G (Btw lo hi)) (h0 : 0 < lo) (h1 : hi ≤ 1000000) : EvR K p (tCall (spR K Pre_off R_off) [] E (tCons (tVar i) (tCons te tNil))) σ G (Btw 0 (hi - 1)) :=
  r_call hs (rs_one h fun d ⟨m, hd, h2, h3⟩ => ⟨⟨m, by rw [hd], by omega, by omega⟩, fun d' ⟨m', hm, r, hr, hl⟩ => ⟨r, hr, Nat.zero_le _, by
    have hm : D.int m = D.int m' := by rw [← hd]; injection hm
    injection hm with hm
    omega⟩⟩)
theorem r_offN {σ : L2.St} {p : Addr} {G : Hp} {te : TE} {E : XK} {n i : Nat} (hs : σ[i]? = some (some (.ref p))) (h : EvD K te σ G (.int n)) (h0 : 0 < n) (h1 : n ≤ 1000000) : EvR K p (tCall (spR K Pre_off R_off) [] E (tCons (tVar i) (tCons te tNil))) σ G (Lt n) :=
  (r_call1 hs (a_one h) ⟨n, rfl, h0, h1⟩).imp fun d ⟨m', hm, h⟩ => by
    have hm : D.int n = D.int m' := by injection hm
    injection hm with hm
    have hm : n = m' := by omega
    rw [hm]
    exact h
end
end J

/-! sorted(xs, key=lambda r: ..) whose keys are pairs of ints. -/
namespace J
open PySem PySem.Spec PyProof.Rows L2
section
variable {prog : Program} {w : World} {A : Around} {E : Value → Shared → Prop} {s : Shared} {env : Env} {r : Str} {m : Str → Option Value} {t : Addr} {items : Array Value} {i j : Int} {a b : Tok} {k k2 : Nat} {p1 p2 p3 p4 p5 p6 p7 : Pos}
theorem reads_pair {h : Heap} {q : Addr} {o : Obj} {n : Nat} (h1 : h.get? q = some o) (h2 : o.cls = .type "tuple") (h3 : o.data = .seq #[.int i a, .int j b] n) : Reads h (.ref q) (.tuple [.int i, .int j]) [] :=
  .tuple h1 h2 h3 (.cons (as := []) (.int _ _) (.cons (as := []) (.int _ _) .nil))
/-- r[:2] -/
theorem key_cut (hk : env.scope.kind = .function) (hl : env.kindOf r = some .local) (hn : s.heap.Ns env.locals m) (hv : m r = some (.ref t)) (ht : IsTup s.heap t items) (h0 : items[0]? = some (.int i a)) (h1 : items[1]? = some (.int j b)) (h2 : 2 < items.size) (hz : items.size ≤ sizeLine) (hd : (r == ("__debug__" : Str)) = false := by decide) :
    wpAny (model prog w) A (eval (.Subscript (.Name r p1) (.Slice none (some (.Constant (.int 2) k p2)) none p3) p4) env) (PySem.W.KeyPure (.tuple [.int i, .int j]) s) E s := by
  refine wpAny_Subscript_Slice PyProof.Rows.slot_tuple_getitem.lookup (wpAny_Name (wpAny_loadName_local hk hl hn hv ?_) hd)
  refine wpAny_Slice (wpAny_pure ?_)
  rw [evalPart_some]
  refine wpAny_Constant_int (wpAny_pure ?_)
  have ht2 : IsTup (s.heap.push { cls := .type "slice", data := .fields #[.none, .int 2 s.toks, .none] }) t items := ht.push _
  refine ⟨ht2.typeIs, ?_⟩
  refine HT.getItem_tuple_cut (lo := none) (hi := some 2) ht2 (Heap.IsSliceOf.new ..) ?_ ?_ ?_ ?_ hz
  · exact .none
  · exact .int 2 s.toks
  · have e : HT.sIx items.size items.size (some (2 : Int)) = min 2 items.size := HT.sIx_nat items.size items.size 2
    rw [e]
    omega
  · have e : HT.sIx items.size items.size (some (2 : Int)) = min 2 items.size := HT.sIx_nat items.size items.size 2
    refine ⟨_, _, rfl, fun b o q => Heap.get?_push_of_some _ (Heap.get?_push_of_some _ q), ?_⟩
    refine reads_pair (a := a) (b := b) (n := 0) (Heap.get?_push_size _ rfl) rfl ?_
    have h2' : min 2 items.size = 2 := by omega
    have e0 : HT.sIx items.size 0 none = 0 := rfl
    rw [e, h2', e0, List.drop_zero]
    have e3 : items.toList.take (2 - 0) = [.int i a, .int j b] := by
      apply List.ext_getElem?
      intro z
      rw [List.getElem?_take]
      match z with
      | 0 => simpa using h0
      | 1 => simpa using h1
      | z + 2 => rw [if_neg (by omega)]; rfl
    rw [e3]
/-- (r[0], r[1]) -/
theorem key_two (hk : env.scope.kind = .function) (hl : env.kindOf r = some .local) (hn : s.heap.Ns env.locals m) (hv : m r = some (.ref t)) (ht : IsTup s.heap t items) (h0 : items[0]? = some (.int i a)) (h1 : items[1]? = some (.int j b)) (h2 : 2 < items.size) (hz : items.size ≤ sizeLine) (hd : (r == ("__debug__" : Str)) = false := by decide) :
    wpAny (model prog w) A (eval (.Tuple [.Subscript (.Name r p1) (.Constant (.int 0) k p2) p3, .Subscript (.Name r p4) (.Constant (.int 1) k2 p5) p6] k p7) env) (PySem.W.KeyPure (.tuple [.int i, .int j]) s) E s := by
  have hn63 := line63
  have z1 : 1 < items.size := by omega
  have z0 : 0 < items.size := by omega
  refine wpAny_Tuple_spliced ?_
  show wpAny _ _ (spliced ((false, eval (.Subscript (.Name r p1) (.Constant (.int 0) k p2) p3) env) :: backTo p7 (starEach [.Subscript (.Name r p4) (.Constant (.int 1) k2 p5) p6] env))) _ _ s
  refine Calls.spliced_cons (wpAny_Subscript_Constant_late (wpAny_Name (wpAny_loadName_local hk hl hn hv (wpAny_Constant_int ?_)) hd))
  refine ⟨"tuple", _, PyProof.Rows.slot_tuple_getitem.lookup, ht.typeIs, getItem_tuple (j := 0) (x := .int i a) ht (by decide) (by decide) (ixN_seq (Evl.ixN_nat z0)).1 h0 ?_⟩
  show wpAny _ _ (spliced ((false, eval (.Subscript (.Name r p4) (.Constant (.int 1) k2 p5) p6) env) :: backTo p7 (starEach [] env))) _ _ _
  refine Calls.spliced_cons (wpAny_Subscript_Constant_late (wpAny_Name (wpAny_loadName_local hk hl hn hv (wpAny_Constant_int ?_)) hd))
  refine ⟨"tuple", _, PyProof.Rows.slot_tuple_getitem.lookup, ht.typeIs, getItem_tuple (j := 1) (x := .int j b) ht (by decide) (by decide) (ixN_seq (Evl.ixN_nat z1)).1 h1 ?_⟩
  refine Calls.spliced_nil ?_
  refine ⟨by show 2 ≤ _; rw [sizeLine_eq]; decide, _, _, rfl, fun b o q => Heap.get?_push_of_some _ q, reads_pair (a := a) (b := b) (n := 0) (Heap.get?_push_size _ rfl) rfl rfl⟩
end
/-! ### the function object called -/
section
variable {P : Program} {w : World} {A : Around} {s : Shared} {h : Heap} {tk : Nat} {f c' : Addr} {q r : Str} {params : Arguments} {body : Expr} {scope : Scope} {pm ctv v : Value} {k : PyData}
theorem key_call (hd : A.depth < recursionLimit) (hlim : h.NoLimit) (hf : h.get? f = some (PySem.W.kla_obj "<lambda>" q params body scope [] pm c' ctv)) (hk : scope.kind = .function) (hco : scope.isCoroutine = false) (hgen : scope.isGenerator = false)
    (hcell : ∀ y ∈ scope.names, y.2 ≠ .cell) (hl : scope.names.lookup r = some .local) (hcd : h.CodeRec (.ref c') q)
    (hbind : bindArgs (PySem.W.kla_fn "<lambda>" q params body scope [] pm (.ref c') ctv) ⟨[v], []⟩ = pure [(r, v)])
    (hb : ∀ (h1 : Heap) (env : Env) (tk1 : Nat), (∀ b o, h.get? b = some o → h1.get? b = some o) → env.scope = scope → env.cells = [] → h1.Ns env.locals (fun x => [(r, v)].reverse.lookup x) →
      wpAny (model P w) (A.deeper env) (eval body env) (PySem.W.KeyPure k { s with heap := h1, toks := tk1 }) (fun _ _ => False) { s with heap := h1, toks := tk1 }) :
    wpAny (model P w) A (call (.ref f) [v]) (PySem.W.KeyPure k { s with heap := h, toks := tk }) (fun _ _ => False) { s with heap := h, toks := tk } := by
  have rc : codeAny (model P w) A (.call (.ref f) ⟨[v], []⟩) (fun x s' => ∃ u, x = .ok (.ret u) ∧ PySem.W.KeyPure k { s with heap := h, toks := tk } u s') { s with heap := h, toks := tk } := by
    refine PySem.W.kla_callFunE hd hf rfl hco hgen rfl hcd ?_
    rw [hbind]
    refine wpAny_pure (wpAny_newFunctionEnv hcell (fun y hy => ?_) (fun h1 hns hsb => ⟨hlim.fresh _ hsb, ?_⟩) hk)
    · rw [List.mem_singleton.mp hy]
      exact hl
    have kp : ∀ b o, h.get? b = some o → h1.get? b = some o := fun b o e => hsb.extBut b o (Nat.ne_of_lt (Heap.lt_size e)) (Heap.get?_push_of_some _ e)
    refine PySem.W.kla_codeExpr (wpAny_mono (hb h1 _ _ kp rfl rfl hns) (fun u s' hq => ?_) fun _ _ z => z.elim)
    obtain ⟨h2, tk2, e1, e2, e3⟩ := hq
    exact ⟨u, rfl, h2, tk2, e1, fun b o z => e2 b o (kp b o z), e3⟩
  refine wpAny_call (codeAny_mono rc fun x s' hq => ?_)
  obtain ⟨u, rfl, hq⟩ := hq
  exact hq
end
/-! ### the rule -/
/-- what is asked of the lambda's body: at a row it gives its first two items, whole numbers -/
def KeyBody (body : Expr) (r : Str) : Prop := ∀ (P : Program) (w : World) (A : Around) (s : Shared) (env : Env) (m : Str → Option Value) (t : Addr) (items : Array Value) (i j : Int) (a b : Tok), env.scope.kind = .function → env.kindOf r = some .local → s.heap.Ns env.locals m → m r = some (.ref t) →
  IsTup s.heap t items → items[0]? = some (.int i a) → items[1]? = some (.int j b) → 2 < items.size → items.size ≤ sizeLine → wpAny (model P w) A (eval body env) (PySem.W.KeyPure (.tuple [.int i, .int j]) s) (fun _ _ => False) s
theorem kb_cut {r : Str} {k : Nat} {p1 p2 p3 p4 : Pos} (hd : (r == ("__debug__" : Str)) = false := by decide) : KeyBody (.Subscript (.Name r p1) (.Slice none (some (.Constant (.int 2) k p2)) none p3) p4) r := fun _ _ _ _ _ _ _ _ _ _ _ _ h1 h2 h3 h4 h5 h6 h7 h8 h9 => key_cut h1 h2 h3 h4 h5 h6 h7 h8 h9 hd
theorem kb_two {r : Str} {k k2 k3 : Nat} {p1 p2 p3 p4 p5 p6 p7 : Pos} (hd : (r == ("__debug__" : Str)) = false := by decide) : KeyBody (.Tuple [.Subscript (.Name r p1) (.Constant (.int 0) k p2) p3, .Subscript (.Name r p4) (.Constant (.int 1) k2 p5) p6] k3 p7) r := fun _ _ _ _ _ _ _ _ _ _ _ _ h1 h2 h3 h4 h5 h6 h7 h8 h9 => key_two h1 h2 h3 h4 h5 h6 h7 h8 h9 hd
/-- a row of at least three items that begins with two whole numbers -/
def RowIs (H : Hp) (x : V) (i j : Int) : Prop := ∃ t y rest, x = .ref t ∧ H t = some (.tup (.int i :: .int j :: y :: rest))
/-- rows with their keys, sorted by these -/
def keyLe (p q : V × Int × Int) : Bool := decide (p.2.1 < q.2.1 ∨ (p.2.1 = q.2.1 ∧ p.2.2 ≤ q.2.2))
/-- the heap behind the making of a lambda: a code object more, told by the table at P; or as it was -/
def Made (P : Addr) (q : Str) (H H1 : Hp) : Prop := H1 = H ∨ ∃ ps qs d, H P = some (.tbl ps) ∧ H d = none ∧ Grew (upd (upd H P (.tbl qs)) d (LamX.CodeO d q)) q ps qs ∧ H1 = upd (upd H P (.tbl qs)) d (LamX.CodeO d q)
def tSortK (K : PySem.W.Frag) (P : Addr) (q : Str) (te : TE) : TE := fun σ H Q => te σ H fun v H1 => ∃ a, ∃ bs : List (V × Int × Int), v = .ref a ∧ SqL K H1 a (bs.map (·.1)) ∧ LamX.TabS H1 P q ∧ (∀ b ∈ bs, RowIs H1 b.1 b.2.1 b.2.2) ∧ bs.length ≤ 1000000 ∧
  ∀ H2 l, Made P q H1 H2 → H2 l = none → Q (.ref l) (upd H2 l (.lst ((bs.mergeSort keyLe).map (·.1))))
theorem keyLe_eq : PySem.W.dataLe false (fun b : V × Int × Int => PyData.tuple [.int b.2.1, .int b.2.2]) = keyLe := PySem.W.dataLe_ii (fun b : V × Int × Int => b.2.1) fun b => b.2.2
section
variable {X : Cx} {pins : List (Addr × Obj)} {σ : L2.St} {H : Hp} {s : Shared}
theorem lam_new {cd P : Addr} {params : Arguments} {body : Expr} {scope : Scope} {lp : Pos} {Er : Value → Shared → Prop} {Q : Value → Shared → Prop} (I : Inv X pins σ H s) (TB : LamX.TabB X.base X.mg cd P) (code : X.env.code = .ref cd) (good : LamX.TabS H P (X.env.qual ++ "<lambda>"))
    (nodef : defaultsOf params X.env = ([], [])) (nofree : ∀ y ∈ scope.names, y.2 ≠ .free)
    (k : ∀ (f d : Addr) (pm tv : Value) (H1 : Hp) (s1 : Shared), Inv X pins σ H1 s1 → Made P (X.env.qual ++ "<lambda>") H H1 → s1.heap.get? f = some (PySem.W.kla_obj "<lambda>" (X.env.qual ++ "<lambda>") params body scope (cloFrom X.env.cells scope.names []) pm d tv) →
      H1 d = some (LamX.CodeO d (X.env.qual ++ "<lambda>")) → Q (.ref f) s1) : wpAny (model X.prog X.w) X.A (eval (.Lambda params body scope lp) X.env) Q Er s := by
  obtain ⟨ps, hP, tri, told⟩ := good
  have clo : closureFor scope X.env = pure (cloFrom X.env.cells scope.names []) := closure_ok fun y hy e => absurd e (nofree y hy)
  have bm := TB.bm.keeps I.bk
  have atP := I.hok P _ hP
  refine PySem.W.kla_eval nodef ?_
  cases found : codeAmong lp ps.toList with
  | some cv =>
    obtain ⟨d, rfl, hd⟩ := told lp cv found
    refine PySem.W.kla_makeFunctionHit (mg := X.mg) (c := cd) (P := P) (ps := ps) clo I.ok.glob (I.mod.glob.keeps I.bk) code (TB.code.keeps I.bk) atP tri found bm fun tv h1 tk up sz => ?_
    exact k _ d _ tv H _ (I.kept fun b o e => Heap.get?_push_of_some _ (up b o e)) (.inl rfl) (Heap.get?_push_size _ rfl) hd
  | none =>
    refine PySem.W.kla_makeFunction (mg := X.mg) (c := cd) (P := P) (ps := ps) clo I.ok.glob (I.mod.glob.keeps I.bk) code (TB.code.keeps I.bk) atP tri found TB.gP bm fun d tv h1 tk up ge lt rec tab => ?_
    obtain ⟨_, oc, us, t, e2, g1, g2, g3⟩ := rec
    cases e2
    have nd : H d = none := I.hok.fresh ge
    refine k _ d _ tv _ _ (LamX.inv_table (t' := tk) (more := #[rawInt lp.line, rawInt lp.col, .ref d]) I hP (fun b o hb e => Heap.get?_push_of_some _ (up b o hb e)) (Heap.get?_push_of_some _ tab) ge ⟨oc, us, t, Heap.get?_push_of_some _ g1, g2, g3⟩) (.inr ⟨ps, _, d, hP, nd, ?_, rfl⟩) (Heap.get?_push_size _ rfl) upd_same
    have el : (ps ++ #[rawInt lp.line, rawInt lp.col, .ref d]).toList = ps.toList ++ [rawInt lp.line, rawInt lp.col, .ref d] := by simp
    intro _
    rw [el]
    refine ⟨PySem.TriplesOk_snoc _ _ _ _ tri, fun pos cv hc => ?_⟩
    rcases LamX.among_app _ tri hc with z | z
    · exact .inl ⟨pos, z⟩
    · exact .inr ⟨d, z, upd_same⟩
theorem pe_sortedK {e : Expr} {te : TE} {cd P : Addr} {kk : Nat} {x r : Str} {params : Arguments} {body : Expr} {scope : Scope} {lp p kp pos : Pos} (hg : Gl X x) (hm : X.mg x = none) (hv : bootBuiltins x = some (.builtin "sorted")) (he : PE X e te) (hr : Room kk X.A) (TB : LamX.TabB X.base X.mg cd P) (code : X.env.code = .ref cd)
    (kb : KeyBody body r) (nodef : defaultsOf params X.env = ([], [])) (hk : scope.kind = .function) (hco : scope.isCoroutine = false) (hgen : scope.isGenerator = false) (hnames : scope.names = [(r, .local)])
    (hbind : ∀ (q : Str) (cl : List (Str × Addr)) (pm cv ctv v : Value), bindArgs (PySem.W.kla_fn "<lambda>" q params body scope cl pm cv ctv) ⟨[v], []⟩ = pure [(r, v)])
    (hn : x ≠ "__name__" := by decide) (hdb : (x == ("__debug__" : Str)) = false := by decide)
    (hst : starEach [e] X.env = (false, eval e X.env) :: starEach [] X.env := by rfl) :
    PE X (.Call (.Name x p) [e] [⟨some "key", .Lambda params body scope lp, kp⟩] pos) (tSortK X.K P (X.env.qual ++ "<lambda>") te) := by
  refine ⟨fun pins s σ H Q I h => ?_⟩
  refine wpAny_Call_Name_kw (ld_blt I hg hm hv ?_ hn hdb)
  refine PyProof.Rows.callWith_kw ?_ (by rw [hst]; rfl) (by rw [hst]; rfl) (by rfl) (by rfl)
  rw [hst]
  show wpAny _ _ (spliced ((false, eval e X.env) :: backTo pos (starEach [] X.env))) _ _ s
  refine Calls.spliced_cons (thn (he.run pins s σ H _ I h) fun u s1 ⟨v, H1, I1, r1, q1⟩ => Calls.spliced_nil ?_)
  obtain ⟨a, bs, rfl, hs, tab, rows, hlen, q⟩ := q1
  obtain rfl : u = Value.ref a := r1
  show wpAny _ _ (evalAll [do let v ← eval (.Lambda params body scope lp) X.env; standAt pos; pure v]) _ _ s1
  refine wpAny_evalAll_cons (wpAny_bind (lam_new I1 TB code tab nodef (by rw [hnames]; intro y hy; rw [List.mem_singleton.mp hy]; exact fun z => nomatch z) fun f d pm tv H2 s2 I2 made hf hd => wpAny_bind (wpAny_standAt (wpAny_pure (wpAny_evalAll_nil ?_)))))
  have keep2 : ∀ b o, H1 b = some o → isTbl o = false → H2 b = some o := fun b o hb t => by
    rcases made with rfl | ⟨ps, qs, d', h1, h2, _, rfl⟩
    · exact hb
    · rw [upd_ne (ne_of_none hb h2), upd_ne (fun z => by subst z; rw [h1] at hb; cases hb; cases t)]
      exact hb
  have hs2 : SqL X.K H2 a (bs.map (·.1)) := by
    rcases hs with (z | ⟨o, z⟩) | z
    · exact .inl (.inl (keep2 _ _ z rfl))
    · exact .inl (.inr ⟨o, keep2 _ _ z rfl⟩)
    · exact .inr z
  obtain ⟨its, rv, pl, hz⟩ := I2.list hs2
  have hclo : cloFrom X.env.cells scope.names [] = [] := by rw [hnames]; rfl
  rw [hclo] at hf
  obtain ⟨⟨oc, us, tq, hoc, hdc, hvc⟩, _, _⟩ := I2.hok d _ hd
  have hrow : PySem.W.EachIs (fun (u : Value) (b : V × Int × Int) => RelV b.1 u ∧ ∃ (t : Addr) (items : Array Value) (ta tb : Tok), u = .ref t ∧ IsTup s2.heap t items ∧ items[0]? = some (.int b.2.1 ta) ∧ items[1]? = some (.int b.2.2 tb) ∧ 2 < items.size ∧ items.size ≤ sizeLine) its bs := by
    clear hs hs2 hz hlen q pl
    induction bs generalizing its with
    | nil => cases rv; exact .nil
    | cons b bs ih =>
      cases rv with
      | cons r1 rv =>
        refine .cons ⟨r1, ?_⟩ (ih (fun b hb => rows b (List.mem_cons_of_mem _ hb)) _ rv)
        obtain ⟨t, y, rest, e1, e2⟩ := rows b List.mem_cons_self
        obtain ⟨z2, us2, rr, pt⟩ := I2.hok _ _ (keep2 _ _ e2 rfl)
        have r1' : RelV b.1 _ := r1
        rw [e1] at r1'
        obtain rfl := (show _ = Value.ref t from r1')
        have hlen2 := rr.length
        cases rr with
        | cons ra rr =>
          cases rr with
          | cons rb rr =>
            obtain ⟨ta, rfl⟩ := ra
            obtain ⟨tb, rfl⟩ := rb
            refine ⟨t, _, ta, tb, rfl, pt, rfl, rfl, ?_, ?_⟩
            · cases rr with
              | cons rc rr => simp
            · rw [List.size_toArray, ← hlen2]
              exact z2
  show wpAny _ _ (call (.builtin "sorted") [.ref a] [(Str.ofString "key", .ref f)]) _ _ s2
  refine PySem.W.sorted_key_data (b := false) (fun b : V × Int × Int => PyData.tuple [.int b.2.1, .int b.2.2]) pl.isList hrow (PySem.W.AllAlike.of fun b b' => by simp [PySem.W.alike, PySem.W.alikeAll]) (PySem.W.Sortable.tuples fun b => ⟨_, _, rfl⟩) (by rw [sizeLine_eq]; omega)
    (fun b _ => ?_) (PyProof.Rows.ksk_s1 _ _) (fun z => PyProof.Rows.ksk_l1 _ _) (fun z => PyProof.Rows.ksk_t1 f z) (fun v b hR hb h tk kp => ?_) fun out c h' tk kp fr hget hl hout => ?_
  · have := hr.un
    have e0 : (PyData.tuple [PyData.int b.2.1, PyData.int b.2.2]).depth = 1 := by simp [PyData.depth, PyData.depthAll]
    rw [e0]
    omega
  · obtain ⟨_, t, items, ta, tb, rfl, ht, h0, h1, h2, h3⟩ := hR
    refine key_call (r := r) hr.depth (I2.nolimit.keeps kp) (kp _ _ hf) hk hco hgen (by rw [hnames]; intro y hy; rw [List.mem_singleton.mp hy]; exact fun z => nomatch z) (by rw [hnames]; simp) ⟨d, oc, us, tq, rfl, kp _ _ hoc, hdc, hvc⟩ (hbind _ _ _ _ _ _) fun h1' env tk1 kp1 hsc hcl hns => ?_
    refine kb _ _ _ _ env _ t items _ _ ta tb (by rw [hsc]; exact hk) ?_ hns (by simp) ((ht.keeps kp).keeps kp1) h0 h1 h2 h3
    show env.scope.names.lookup r = _
    rw [hsc, hnames]
    simp
  · have ev : Vals ((bs.mergeSort keyLe).map (·.1)) out := by
      rw [keyLe_eq] at hout
      generalize bs.mergeSort keyLe = cs at hout
      clear hl hget
      induction hout with
      | nil => exact .nil
      | cons h1 _ ih => exact .cons h1.1 ih
    have hz3 : ((bs.mergeSort keyLe).map (·.1)).length ≤ sizeLine := by
      rw [List.length_map, List.length_mergeSort, sizeLine_eq]
      omega
    exact ⟨.ref _, upd H2 (s2.heap.objs.size + 1) (.lst ((bs.mergeSort keyLe).map (·.1))), I2.laid (t' := tk) kp (Nat.le_succ _) ⟨hz3, out, c, ev, hget⟩, rfl, q _ _ made (I2.hok.fresh (Nat.le_succ _))⟩
end
end J

/-! A def that makes a lambda; sorted rows. -/
namespace J
open PySem PySem.Spec PyProof.Rows L2
/-- a def whose code object is known -/
structure FunL (K : PySem.W.Frag) (x qual : Str) (st : Stmt) (f : Addr) (fd : FuncData) (cd : Addr) : Prop where
  ex : ∃ (oc : Value) (od : Option Addr) (kV doc pm : Value) (an : Option Addr) (ct : Value) (osl : Array (Option Value)),
    fd = PySem.W.fnOf x qual (defArgs st) (defBody st) (defScope st) .none kV doc pm an (.ref cd) ct ∧ K.lookup f = some ⟨oc, od, .func fd, osl⟩ ∧ PySem.W.codeIn K (.ref cd) qual = true
  kp : PySem.W.keepIn K (.ref f) = true
theorem FunL.fun {K : PySem.W.Frag} {x qual : Str} {st : Stmt} {f : Addr} {fd : FuncData} {cd : Addr} (F : FunL K x qual st f fd cd) : Fun K x qual st f fd := by
  obtain ⟨⟨oc, od, kV, doc, pm, an, ct, osl, e, lk, c⟩, kp⟩ := F
  exact ⟨⟨oc, od, kV, doc, pm, an, _, ct, osl, e, lk, c⟩, kp⟩
theorem FunL.ok {P : Program} {w : World} {K : PySem.W.Frag} {mg : Str → Option Value} {base : Heap} {x qual : Str} {st : Stmt} {f cd : Addr} {fd : FuncData} {N ps : List Str} {k : Nat} {sp : Sp} (F : FunL K x qual st f fd cd) (S : FnScope N ps (defScope st)) (len : ∀ vs H Q E, sp vs H Q E → vs.length = ps.length)
    (body : ∀ (A : Around) (outer : List Env) (s : Shared) (H : Hp) (vs : List V) (Q : VK) (E : XK), Room k (A.deeper (envOfC qual (defScope st) s.heap.objs.size f (.ref cd))) → sp vs H Q E →
      ∃ t, PSs (cxOf CX0 P w K mg base N qual (defScope st) f (.ref cd) A outer s H E).nox (defBody st) t ∧ t { nx := fun _ H' => Q .non H', rt := Q } (start N vs) H) : FnOk P w K mg base CX0 (k + 1) f fd ps sp := by
  obtain ⟨⟨oc, od, kV, doc, pm, an, ct, osl, rfl, lk, c⟩, kp⟩ := F
  refine fn_of lk c S len fun A outer s H vs Q E hr hsp => ?_
  obtain ⟨t, h, q⟩ := body A outer s H vs Q E hr hsp
  exact ⟨t, h.nox, q⟩
section
variable [Tbs] {K : PySem.W.Frag} {σ : L2.St} {G H : Hp} {te : TE} {P : Addr}
theorem made_step {H2 : Hp} (e : Ex G H) (m : Made P (Tbs.q P) H H2) : ∃ G2, Step G H G2 H2 := by
  rcases m with rfl | ⟨ps, qs, d, hP, hd, gr, rfl⟩
  · exact ⟨G, Step.refl e⟩
  have gd := fresh_back e hd
  have nPd : P ≠ d := ne_of_none hP hd
  have kk : ∀ b o, H b = some o → isTbl o = false → upd (upd H P (.tbl qs)) d (LamX.CodeO d (Tbs.q P)) b = some o := fun b o hb t => by
    rw [upd_ne (ne_of_none hb hd), upd_ne (fun z => by subst z; rw [hP] at hb; cases hb; cases t)]
    exact hb
  have hh : Ex H (upd (upd H P (.tbl qs)) d (LamX.CodeO d (Tbs.q P))) := ⟨kk, fun b p0 hb => by
    by_cases z : b = P
    · subst z
      rw [hP] at hb
      cases hb
      exact ⟨qs, by rw [upd_ne nPd, upd_same], gr⟩
    · exact ⟨p0, by rw [upd_ne (ne_of_none hb hd), upd_ne z]; exact hb, .refl⟩⟩
  refine ⟨upd G d (LamX.CodeO d (Tbs.q P)), Ex.new gd, ?_, hh, fun b o h1 h2 _ => ?_, fun b o h1 h2 _ => ?_⟩
  · have e2 := e.trans hh
    refine ⟨fun b o hb t => ?_, fun b p0 hb => ?_⟩
    · by_cases z : b = d
      · subst z; rw [upd_same] at hb; rw [upd_same]; exact hb
      · rw [upd_ne z] at hb; exact e2.k b o hb t
    · by_cases z : b = d
      · subst z; rw [upd_same] at hb; cases hb
      · rw [upd_ne z] at hb; exact e2.t b p0 hb
  · rw [upd_ne (ne_of_none h2 hd)]
    exact h1
  · have z : b = d := by
      by_cases z : b = d
      · exact z
      · rw [upd_ne z] at h2
        by_cases zP : b = P
        · subst zP; rw [hP] at h1; cases h1
        · rw [upd_ne zP, h1] at h2; cases h2
    subst z
    rw [upd_same]
    intro q
    cases q
theorem RpA.zip {α : Type} {f : α → D} : ∀ {xs : List α} {vs : List V}, RpA K G vs (xs.map f) → ∀ p ∈ vs.zip xs, Rp K G p.1 (f p.2)
  | [], _, h => by
    cases h
    intro p hp
    simp at hp
  | x :: xs, _, h => by
    cases h with
    | cons r1 ra =>
      intro p hp
      rw [List.zip_cons_cons] at hp
      cases hp with
      | head => exact r1
      | tail _ hp => exact RpA.zip ra p hp
theorem RpA.of_pairs {α : Type} {f : α → D} : ∀ {l : List (V × α)}, (∀ p ∈ l, Rp K G p.1 (f p.2)) → RpA K G (l.map (·.1)) ((l.map (·.2)).map f)
  | [], _ => .nil
  | p :: l, h => .cons (h p List.mem_cons_self) (RpA.of_pairs fun q hq => h q (List.mem_cons_of_mem _ hq))
/-- the table at P is known to be good -/
def Mk (G : Hp) (P : Addr) : Prop := ∃ G0, Ex G0 G ∧ G0 P = some (.tbl #[])
theorem Mk.ex {G1 : Hp} (m : Mk G P) (e : Ex G G1) : Mk G1 P := let ⟨G0, e0, h⟩ := m; ⟨G0, e0.trans e, h⟩
theorem Mk.tab (m : Mk G P) (e : Ex G H) : LamX.TabS H P (Tbs.q P) := let ⟨_, e0, h⟩ := m; (e0.trans e).tab h
theorem s_par3 {Dn : Ends} {i j l : Nat} {as : TA} {d1 d2 d3 : D} (e : Ex G H) (h : EvAs K as σ G [d1, d2, d3]) (k : ∀ v1 v2 v3 G1 H1, Step G H G1 H1 → Rp K G1 v1 d1 → Rp K G1 v2 d2 → Rp K G1 v3 d3 → Dn.nx (((σ.set i (some v1)).set j (some v2)).set l (some v3)) H1) : tPar3 i j l as Dn σ H := by
  refine h H e _ fun vs G1 H1 s r => ?_
  obtain ⟨a, b, c, rfl, ra, rb, rc⟩ := r.three
  exact ⟨a, b, c, rfl, k a b c G1 H1 s ra rb rc⟩
/-- rows by their keys -/
def rowLe {α : Type} (key : α → Nat × Nat) (a b : α) : Bool := decide ((key a).1 < (key b).1 ∨ ((key a).1 = (key b).1 ∧ (key a).2 ≤ (key b).2))
theorem f_sortedK {α : Type} {xs : List α} {f : α → D} {key : α → Nat × Nat} {y : α → D} {rest : α → List D} (h : EvD K te σ G (.lst (xs.map f))) (hm : Mk G P) (hf : ∀ x, f x = .tup (.int (key x).1 :: .int (key x).2 :: y x :: rest x)) (hl : xs.length ≤ 1000000) :
    EvF K (tSortK K P (Tbs.q P) te) σ G ((xs.mergeSort (rowLe key)).map f) := fun H e Q q =>
  h H e _ fun v G1 H1 s r => by
    obtain ⟨a, vs, rfl, hs, ra⟩ := r.lst_of
    have hlen : vs.length = xs.length := by rw [ra.len, List.length_map]
    have hG1 : Ex G H1 := s.g.trans s.i
    let g : V × α → V × Int × Int := fun p => (p.1, ((key p.2).1 : Int), ((key p.2).2 : Int))
    have hz : (vs.zip xs).map (·.1) = vs := List.map_fst_zip (by omega)
    have hz2 : (vs.zip xs).map (·.2) = xs := List.map_snd_zip (by omega)
    have rz := ra.zip
    have hbs : ((vs.zip xs).map g).map (·.1) = vs := by rw [List.map_map]; exact hz
    refine ⟨a, (vs.zip xs).map g, rfl, by rw [hbs]; exact .of (s.i _ _ hs), hm.tab hG1, fun b hb => ?_, by rw [List.length_map, List.length_zip]; omega, fun H2 l made hl2 => ?_⟩
    · obtain ⟨p, hp, rfl⟩ := List.mem_map.mp hb
      have r1 := rz p hp
      rw [hf] at r1
      obtain ⟨t, us, e1, ht, hu⟩ := r1.tup_of
      cases hu with
      | cons ru hu =>
        cases hu with
        | cons rw' hu =>
          cases hu with
          | cons _ hu =>
            rw [ru.int_of, rw'.int_of] at ht
            exact ⟨t, _, _, e1, s.i _ _ ht⟩
    · obtain ⟨G2, s2⟩ := made_step s.i made
      have hsort : (((vs.zip xs).map g).mergeSort keyLe) = ((vs.zip xs).mergeSort fun p q => rowLe key p.2 q.2).map g := by
        refine (List.map_mergeSort fun p _ q _ => ?_).symm
        show rowLe key p.2 q.2 = decide (((key p.2).1 : Int) < (key q.2).1 ∨ (((key p.2).1 : Int) = (key q.2).1 ∧ ((key p.2).2 : Int) ≤ (key q.2).2))
        unfold rowLe
        exact dec_iff (by omega)
      have hxs : xs.mergeSort (rowLe key) = ((vs.zip xs).mergeSort fun p q => rowLe key p.2 q.2).map (·.2) := by
        have h1 := List.map_mergeSort (l := vs.zip xs) (r := fun p q : V × α => rowLe key p.2 q.2) (s := rowLe key) (f := fun p => p.2) fun p _ q _ => rfl
        rw [h1, hz2]
      rw [hsort, List.map_map]
      have S := (s.trans s2)
      refine q l _ G2 _ (S.trans (Step.own s2.i hl2)) (S.pre hl2) (fresh_back s2.i hl2) upd_same ?_
      rw [hxs]
      exact RpA.of_pairs fun p hp => (rz p (List.mem_mergeSort.mp hp)).ex s2.g
/-- defs that sort: what they are told of the tables -/
def Mks (G : Hp) : Prop := Mk G Tbs.p1 ∧ Mk G Tbs.p2
theorem Mks.ex {G1 : Hp} (m : Mks G) (e : Ex G G1) : Mks G1 := ⟨m.1.ex e, m.2.ex e⟩
def spFm (K : PySem.W.Frag) (R : List D → List D → Prop) : Sp := fun vs H Q _ => ∃ G ds r, Ex G H ∧ Mks G ∧ RpA K G vs ds ∧ R ds r ∧ ∀ p xs G' H', Step G H G' H' → H p = none → G' p = none → H' p = some (.lst xs) → RpA K G' xs r → Q (.ref p) H'
def spPm (K : PySem.W.Frag) (R : List D → D → Prop) : Sp := fun vs H Q _ => ∃ G ds r, Ex G H ∧ Mks G ∧ RpA K G vs ds ∧ R ds r ∧ ∀ v G' H', Step G H G' H' → Rp K G' v r → Q v H'
variable {as : TA} {ds es : List D} {d : D}
theorem f_callm {R : List D → List D → Prop} {E : XK} (m : Mks G) (h : EvAs K as σ G ds) (hr : R ds es) : EvF K (tCall (spFm K R) [] E as) σ G es := fun H e Q q =>
  h H e _ fun vs G1 H1 s1 r1 => ⟨G1, ds, es, s1.i, m.ex s1.g, by rw [List.append_nil]; exact r1, hr, fun p xs G2 H2 s2 h1 h2 h3 r2 => q p xs G2 H2 (s1.trans s2) (s1.pre h1) h2 h3 r2⟩
theorem e_callm {R : List D → D → Prop} {E : XK} (m : Mks G) (h : EvAs K as σ G ds) (hr : R ds d) : EvD K (tCall (spPm K R) [] E as) σ G d := fun H e Q q =>
  h H e _ fun vs G1 H1 s1 r1 => ⟨G1, ds, d, s1.i, m.ex s1.g, by rw [List.append_nil]; exact r1, hr, fun v G2 H2 s2 r2 => q v G2 H2 (s1.trans s2) r2⟩
end
theorem pe_sortedK' [Tbs] {X : Cx} (K : PySem.W.Frag) (hK : X.K = K) {e : Expr} {te : TE} {cd P : Addr} {kk : Nat} {x r : Str} {params : Arguments} {body : Expr} {scope : Scope} {lp p kp pos : Pos} (hq : X.env.qual ++ "<lambda>" = Tbs.q P) (hg : Gl X x) (hm : X.mg x = none) (hv : bootBuiltins x = some (.builtin "sorted")) (he : PE X e te) (hr : Room kk X.A) (TB : LamX.TabB X.base X.mg cd P) (code : X.env.code = .ref cd)
    (kb : KeyBody body r) (nodef : defaultsOf params X.env = ([], []) := by rfl) (hk : scope.kind = .function := by rfl) (hco : scope.isCoroutine = false := by rfl) (hgen : scope.isGenerator = false := by rfl) (hnames : scope.names = [(r, .local)] := by rfl)
    (hbind : ∀ (q : Str) (cl : List (Str × Addr)) (pm cv ctv v : Value), bindArgs (PySem.W.kla_fn "<lambda>" q params body scope cl pm cv ctv) ⟨[v], []⟩ = pure [(r, v)] := by intros; rfl)
    (hn : x ≠ "__name__" := by decide) (hdb : (x == ("__debug__" : Str)) = false := by decide)
    (hst : starEach [e] X.env = (false, eval e X.env) :: starEach [] X.env := by rfl) :
    PE X (.Call (.Name x p) [e] [⟨some "key", .Lambda params body scope lp, kp⟩] pos) (tSortK K P (Tbs.q P) te) := by
  subst hK
  rw [← hq]
  exact pe_sortedK hg hm hv he hr TB code kb nodef hk hco hgen hnames hbind hn hdb hst
end J

/-! Dicts whose keys are whole numbers or texts. -/
namespace J
open PySem L2 Evl
def rDictP (K : PySem.W.Frag) : List V → Hp → VK → Prop := fun xs H Q => ∃ (a : Addr) (ps : List Addr) (kvs : List (Key × V)), xs = [.ref a] ∧ SqL K H a (ps.map V.ref) ∧ Paired (fun p kv => SqT K H p [kV kv.1, kv.2]) ps kvs ∧ ∀ p, H p = none → Q (.ref p) (upd H p (.dK (mergeK [] kvs)))
theorem call_dictPK {X : Cx} (K : PySem.W.Frag) (h : X.K = K) (hc : X.calm = true) : CallR X (.type "dict") (rDictP K) := h ▸ call_dictP hc
section
variable [Tbs] {K : PySem.W.Frag} {σ : L2.St} {G H : Hp} {ta tb tc : TE} {d d1 : D} {ds : List D} {x y : V}
theorem RpA.pairsK : ∀ {kvs : List (Key × V)} {vs : List V}, RpA K H vs (kvs.map fun kv => D.tup [kD kv.1, vD kv.2]) → (∀ kv ∈ kvs, scalV kv.2 = true) → ∃ ps : List Addr, vs = ps.map V.ref ∧ Paired (fun p kv => SqT K H p [kV kv.1, kv.2]) ps kvs
  | [], _, h, _ => by cases h; exact ⟨[], rfl, .nil⟩
  | kv :: kvs, _, h, hs => by
    cases h with
    | cons h1 h2 =>
      obtain ⟨ps, rfl, pr⟩ := RpA.pairsK h2 fun q hq => hs q (List.mem_cons_of_mem _ hq)
      obtain ⟨p, xs, rfl, hp, hx⟩ := h1.tup_of
      obtain ⟨v, w, rfl, r1, r2⟩ := hx.two
      have e1 := r1.key
      subst e1
      have e2 : w = kv.2 := by
        have h0 := hs kv List.mem_cons_self
        obtain ⟨k, v⟩ := kv
        cases v <;> first | (cases r2; rfl) | cases h0
      subst e2
      exact ⟨p :: ps, rfl, .cons (.of hp) pr⟩
theorem e_dictK {kvs : List (Key × V)} (ha : EvD K ta σ G (.lst ds)) (hd : ds = kvs.map fun kv => D.tup [kD kv.1, vD kv.2]) (hs : ∀ kv ∈ kvs, scalV kv.2 = true) : EvD K (tCB (rDictP K) (tCons ta tNil)) σ G (.dic (mergeK [] kvs)) :=
  e_cb (a_one ha) fun vs G1 H1 Q e1 e2 r k => by
    subst hd
    obtain ⟨v, rfl, rr⟩ := r.one
    obtain ⟨a, xs, rfl, h1, h2⟩ := rr.lst_of
    obtain ⟨ps, rfl, pr⟩ := (h2.ex e2).pairsK hs
    exact ⟨a, ps, kvs, rfl, .of (e2 _ _ h1), pr, fun p hp => k _ _ _ (Step.new e2 hp) (.dic upd_same)⟩
theorem e_dget2K {kvs : List (Key × V)} {k : Key} (ha : EvD K ta σ G (.dic kvs)) (hb : EvD K tb σ G (kD k)) (hc : EvD K tc σ G d1) (h1 : d1.flat = true) (hv : ∀ v, valV kvs k = some v → scalV v = true) :
    EvD K (tDGet2 ta tb tc) σ G (vD ((valV kvs k).getD d1.toV)) := fun H e Q q =>
  ha H e _ fun x G1 H1 s1 r1 => by
    obtain ⟨a, rfl, ha⟩ := r1.dic_of
    refine ⟨a, rfl, .inl ⟨kvs, .inl (s1.i _ _ ha)⟩, (hb.mono s1.g) H1 s1.i _ fun y G2 H2 s2 r2 => (hc.mono (s1.g.trans s2.g)) H2 s2.i _ fun z G3 H3 s3 r3 => ?_⟩
    have e2 := r2.key
    subst e2
    refine ⟨_, DGet.k (s3.i _ _ (s3.g _ _ (s2.g _ _ ha))), q _ G3 H3 ((s1.trans s2).trans s3) ?_⟩
    rw [(r3.flat h1).1]
    apply rp_vD
    cases w : valV kvs k with
    | some v => exact hv v w
    | none => cases d1 <;> first | rfl | cases h1
end
end J

/-! The head: defs by names, code tables. -/
namespace J
open PySem PySem.Spec PyProof.Rows L2
theorem fun_of {K : PySem.W.Frag} {x q : Str} {st : Stmt} {f : Addr} {fd : FuncData} (F : FunD K x q (defArgs st) (defBody st) (defScope st) [] [] f fd) : Fun K x q st f fd := by
  obtain ⟨⟨oc, od, dV, kV, doc, pm, an, cdv, ct, osl, e, lk, c, dv, kw⟩, kp⟩ := F
  rcases dv with ⟨_, rfl⟩ | ⟨z, _⟩
  · exact ⟨⟨oc, od, kV, doc, pm, an, cdv, ct, osl, e, lk, c⟩, kp⟩
  · exact absurd rfl z
theorem funL_of {K : PySem.W.Frag} {x q : Str} {st : Stmt} {p : He.Defn} {fd : FuncData} (F : FunD K x q (defArgs st) (defBody st) (defScope st) [] [] (He.fAd K p) fd) : FunL K x q st (He.fAd K p) fd (He.cT K p).1 := by
  obtain ⟨⟨oc, od, dV, kV, doc, pm, an, cdv, ct, osl, e, lk, c, dv, kw⟩, kp⟩ := F
  obtain ⟨cc, rfl⟩ := He.codeIn_ref c
  have hc : (He.cT K p).1 = cc := by
    show He.codeOf K p = cc
    unfold He.codeOf
    rw [lk, e]
  rw [hc]
  rcases dv with ⟨_, rfl⟩ | ⟨z, _⟩
  · exact ⟨⟨oc, od, kV, doc, pm, an, ct, osl, e, lk, c⟩, kp⟩
  · exact absurd rfl z
end J

/-! sum(d.values()) of whole numbers. -/
namespace J
open PySem PySem.Spec PyProof.Rows L2
def tSumV (te : TE) : TE := fun σ H Q => te σ H fun v H1 => ∃ d, ∃ kvs : List (Key × V), ∃ ns : List Int, v = .ref d ∧ H1 d = some (.dK kvs) ∧ kvs.map (·.2) = ns.map V.int ∧ Q (.int ns.sum) H1
section
variable {prog : Program} {w : World} {A : Around} {E : Value → Shared → Prop} {s : Shared} {d r : Addr} {K : Type} [DecidableEq K] {knd : KeyKind prog w K} {kvs : List (K × Value)} {ep : Nat} {Q : Value → Shared → Prop}
theorem sum_values (hh : A.handled = none) (hv : s.heap.IsValuesView r d) (hd : s.heap.DictAt knd d kvs ep) (val : Nat → Int) (hval : ∀ (i : Nat) (v : Value), (∃ k, kvs[i]? = some (k, v)) → ∃ t : Tok, v = Value.int (val i) t)
    (h : ∀ (h' : Heap) (tk : Nat) (t' : Tok), (∀ b o, s.heap.get? b = some o → h'.get? b = some o) → Q (.int (preSum val kvs.length) t') { s with heap := h', toks := tk }) : wpAny (model prog w) A (call (.builtin "sum") [.ref r]) Q E s := by
  have src := PySem.W.kdl_values (prog := prog) (w := w) (r := r) (d := d) (knd := knd) (kvs := kvs) (ep := ep)
  have ok : s.heap.IsValuesView r d ∧ s.heap.DictAt knd d kvs ep := ⟨hv, hd⟩
  refine call_sum_walkAnyS ?_
  obtain ⟨oI, St, start, walk, st0⟩ := src.iter A.in1 s hh ok
  refine start _ _ ⟨s.heap.objs.size, _, _, _, kvs.length, _, _, val, rfl, walk.toS, st0, fun b hb => ?_, hval, fun s1 t1 mv => ?_⟩
  · have up : (s.heap.push oI).objs.size = s.heap.objs.size + 1 := size_push' ..
    rcases List.mem_cons.mp hb with z | z
    · rw [z]
      show _ < (s.heap.push oI).objs.size
      omega
    · rw [List.mem_singleton.mp z]
      show _ < (s.heap.push oI).objs.size
      have dl : d < s.heap.objs.size := (src.there s.heap ok).2
      rw [up]
      exact Nat.lt_succ_of_lt dl
  · rw [Moved.eq_with mv]
    exact h s1.heap s1.toks t1 fun b o e => mv.heap b o (fun z => absurd (Heap.lt_size e) (by rw [List.mem_singleton.mp z]; exact Nat.lt_irrefl _)) (Heap.get?_push_of_some _ e)
end
theorem preSum_list : ∀ ns : List Int, preSum (fun i => ns.getD i 0) ns.length = ns.sum
  | [] => rfl
  | z :: ns => by
    rw [List.length_cons, PySem.W.kdu_shift, List.sum_cons, ← preSum_list ns]
    rfl
theorem kv_ints : ∀ {kvs : List (Key × V)} {vs : List (Key × Value)} {ns : List Int}, KV kvs vs → kvs.map (·.2) = ns.map V.int → vs.length = ns.length ∧ ∀ (i : Nat) (u : Value), (∃ k, vs[i]? = some (k, u)) → ∃ t : Tok, u = Value.int (ns.getD i 0) t
  | [], _, ns, h, e => by
    cases h
    cases ns with
    | nil => exact ⟨rfl, fun i u ⟨k, hk⟩ => by simp at hk⟩
    | cons _ _ => cases e
  | p :: kvs, _, ns, h, e => by
    cases h with
    | cons h1 h2 =>
      cases ns with
      | nil => cases e
      | cons z ns =>
        rw [List.map_cons, List.map_cons] at e
        injection e with e1 e2
        obtain ⟨hl, hf⟩ := kv_ints h2 e2
        refine ⟨by rw [List.length_cons, List.length_cons, hl], fun i u ⟨k, hk⟩ => ?_⟩
        cases i with
        | zero =>
          have hk := Option.some.inj hk
          have r : RelV p.2 _ := h1.2
          rw [e1, hk] at r
          obtain ⟨t, ht⟩ := r
          exact ⟨t, ht⟩
        | succ i => exact hf i u ⟨k, hk⟩
section
variable {X : Cx}
theorem pe_sumV {x : Str} {e : Expr} {te : TE} {p ap cp pos : Pos} (hc : X.calm = true) (hg : Gl X x) (hm : X.mg x = none) (hv : bootBuiltins x = some (.builtin "sum")) (he : PE X e te) (hbase : attributeBase e "values" X.env (eval e X.env) = eval e X.env := by rfl) (hline : (ap.endLine == cp.line) = true := by rfl)
    (hn : x ≠ "__name__" := by decide) (hdb : (x == ("__debug__" : Str)) = false := by decide)
    (hst : starEach [.Call (.Attribute e "values" ap) [] [] cp] X.env = (false, eval (.Call (.Attribute e "values" ap) [] [] cp) X.env) :: starEach [] X.env := by rfl) (hpl : (backTo pos (starEach [] X.env)).any (·.1) = false := by rfl) :
    PE X (.Call (.Name x p) [.Call (.Attribute e "values" ap) [] [] cp] [] pos) (tSumV te) := by
  refine ⟨fun pins s σ H Q I h => ?_⟩
  refine wpAny_Call_Name_kw (ld_blt I hg hm hv ?_ hn hdb)
  refine PyProof.Rows.callWith_builtin1 ?_ hst hpl
  rw [hst]
  show wpAny _ _ (spliced ((false, eval (.Call (.Attribute e "values" ap) [] [] cp) X.env) :: backTo pos (starEach [] X.env))) _ _ s
  refine Calls.spliced_cons (wpAny_Call_method (T := "dict") (id := "dict.values") hbase rfl hline F.plainAttrs_dict F.slot_dict_values F.type_dict_values (thn (he.run pins s σ H _ I h) fun u s1 ⟨v, H1, I1, rx, d, kvs, ns, ev, hd, hns, q⟩ => ?_))
  subst ev
  obtain rfl : u = Value.ref d := rx
  obtain ⟨z, hs, vs, kv, hof⟩ := I1.hok d _ hd
  obtain ⟨ep, hat⟩ := hof.dictAt
  refine ⟨hof.typeIs, hof.mapOf.noDict, ?_⟩
  have I2 : Inv X pins σ H1 { s1 with heap := s1.heap.push { cls := .type "dict_values", data := .fields #[.ref d] } } := I1.kept (t' := s1.toks) fun b ob q => Heap.get?_push_of_some _ q
  have vals : ∀ (i : Nat) (u : Value), (∃ k, vs[i]? = some (k, u)) → ∃ t : Tok, u = Value.int (ns.getD i 0) t := by
    exact (kv_ints kv hns).2
  show wpAny _ _ (callWith cp (.builtin "dict.values") [.ref d] [] []) _ X.xe s1
  refine method_meetsIn F.slot_dict_values F.entry_dict_values rfl (PySem.evalArgs_none ⟨rfl, hof.typeIs, F.args_dict_values_1 _, _, meets_dict_values (mixKind X.prog X.w) d hs, ⟨vs, hof⟩, ?_⟩)
  refine Calls.spliced_nil ?_
  refine sum_values (d := d) (knd := mixKind X.prog X.w) (kvs := vs) (ep := ep) (I.ok.hd hc) ⟨_, Heap.get?_push_size _ rfl, rfl, rfl⟩ (hat.push _) (fun i => ns.getD i 0) vals fun h' tk t' keep => ?_
  have hsum : preSum (fun i => ns.getD i 0) vs.length = ns.sum := by
    rw [(kv_ints kv hns).1]
    exact preSum_list ns
  rw [hsum]
  exact ⟨.int _, H1, I2.kept keep, ⟨_, rfl⟩, q⟩
end
section
variable [Tbs] {K : PySem.W.Frag} {σ : L2.St} {G H : Hp} {te tb : TE} {d : D} {Dn : Ends}
theorem e_sumV {kvs : List (Key × V)} {ns : List Int} (ha : EvD K te σ G (.dic kvs)) (h : kvs.map (·.2) = ns.map V.int) : EvD K (tSumV te) σ G (.int ns.sum) := fun H e Q q =>
  ha H e _ fun v G1 H1 s r => by
    obtain ⟨a, rfl, hd⟩ := r.dic_of
    exact ⟨a, kvs, ns, rfl, s.i _ _ hd, h, q _ G1 H1 s (.int _)⟩
/-- p[k] = v, p an own dict with int or text keys, v may read it -/
theorem s_dputKO {i : Nat} {p : Addr} {kvs : List (Key × V)} {k : Key} (e : Ex G H) (hp : G p = none) (hx : H p = some (.dK kvs)) (hi : σ[i]? = some (some (.ref p))) (hv : EvD K te σ (upd G p (.dK kvs)) d) (hf : d.flat = true) (hk : EvD K tb σ G (kD k)) (hz : kvs.length < 1000000)
    (c : ∀ G1 H1, Step G H G1 H1 → G1 p = none → Dn.nx σ (upd H1 p (.dK (putK kvs k d.toV)))) : sDPut (tVar i) tb te Dn σ H :=
  hv H (ex_own e hx) _ fun v G1 H1 s1 r1 => by
    obtain ⟨G2, s2, g2, x2, _⟩ := s1.thaw hp hx
    refine ⟨_, hi, (hk.mono s2.g) H1 s2.i _ fun y G3 H3 s3 r3 => ?_⟩
    have e3 := r3.key
    subst e3
    obtain ⟨g4, x4⟩ := s3.keep g2 x2
    rw [(r1.flat hf).1]
    exact ⟨p, _, rfl, DPut.k x4 (by rw [sizeLine_eq]; omega), c G3 H3 (s2.trans s3) g4⟩
end
end J

/-! Dicts with tuple keys: copies, setdefault, pop, update; sorted pairs. -/
namespace J
open PySem
section
variable {prog : Program} {w : World} {A : Around} {E : Value → Shared → Prop} {s : Shared} {K : Type} [DecidableEq K] {knd : HeapKind prog w K}
theorem call_dict_dictH {o : Addr} {more : List (K × Addr × Value)} {Q : Value → Shared → Prop} (st : knd.Stays) (hu : knd.room A.in1.in1) (hoS : (o == sysModules) = false) (ho : s.heap.DictOfH knd o more) (hty : ∀ x ∈ more, s.TypeIs (.ref x.2.1) "tuple") (hap : (more.map fun x => knd.hash x.1).Nodup) (hsz : more.length ≤ sizeLine)
    (h : ∀ h', h'.DictOfH knd s.heap.objs.size more → Heap.SameBut s.heap.objs.size (s.heap.push { cls := .type "dict", data := .dict #[] }) h' → Q (.ref s.heap.objs.size) { s with heap := h' }) :
    wpAny (model prog w) A (call (.type "dict") [.ref o]) Q E s := by
  refine callType_codes (Q₁ := fun obj s₁ => obj = .ref s.heap.objs.size ∧ s₁ = { s with heap := s.heap.push { cls := .type "dict", data := .dict #[] } }) F.kt_called_dict (F.kt_typeCall_dict_1 _) F.entry_dict_init (kt_code_dict_new _ ⟨rfl, rfl⟩) ?_
  rintro obj s₁ ⟨rfl, rfl⟩
  have hnew : (s.heap.push { cls := .type "dict", data := .dict #[] }).DictOfH knd s.heap.objs.size [] := Heap.DictOfH.new s.heap
  have hdo : s.heap.objs.size ≠ o := by
    obtain ⟨_, _, _, hg, _⟩ := ho
    exact fun e => absurd (Heap.lt_size hg) (by rw [e]; exact Nat.lt_irrefl _)
  have hnn := ho.nodup
  have ho' : (s.heap.push { cls := .type "dict", data := .dict #[] }).DictOfH knd o more := by
    obtain ⟨oo, eso, epo, hoo, hco, hdo', he, his, hn⟩ := ho
    exact ⟨oo, eso, epo, Heap.get?_push_of_some _ hoo, hco, hdo', he, fun y hy => st.stays (fun b o vs n eb _ => Heap.get?_push_of_some _ eb) (his y hy), hn⟩
  refine ⟨hnew.typeIs, F.args_dict_init_2 _ _, ?_⟩
  unfold Builtin.«dict.__init__»
  refine wpAny_bind ?_
  unfold Builtin.Dict.selfAndRest
  refine wpAny_bind (wpAny_notOrdered_dict hnew.typeIs ?_)
  show wpAny _ _ (pure (s.heap.objs.size, [Value.ref o])) _ _ _
  refine wpAny_pure ?_
  show wpAny _ _ (Builtin.Dict.updateFrom "dict.__init__" s.heap.objs.size (.ref o) [] .none) _ _ _
  refine updateFrom_dictH (A := A.in1) (knd := knd) .none hu hdo hoS hnew ho' (.inr ⟨fun x hx => ?_, hap⟩) (by simpa using hsz) fun h' hd' _ hs' => ?_
  · obtain ⟨ob, h1, h2⟩ := hty x hx
    exact ⟨ob, Heap.get?_push_of_some _ h1, h2⟩
  · rw [storedAllH_nil_of_nodup more hnn] at hd'
    exact ⟨rfl, h h' hd' hs'⟩
end

/-! ### the hashes of pairs of small numbers are unlike -/
inductive Bt where
  | l
  | n (a : Bt) (k : Nat) (b : Bt)
def Bt.toL : Bt → List Nat
  | .l => []
  | .n a k b => a.toL ++ k :: b.toL
def Bt.ins (x : Nat) : Bt → Option Bt
  | .l => some (.n .l x .l)
  | .n a k b => if x < k then (match a.ins x with | some a' => some (.n a' k b) | none => none) else if k < x then (match b.ins x with | some b' => some (.n a k b') | none => none) else none
def Bt.all : List Nat → Bt → Option Bt
  | [], t => some t
  | x :: xs, t => match t.ins x with
    | some t' => Bt.all xs t'
    | none => none
theorem Bt.ins_ok {x : Nat} : ∀ {t t' : Bt}, t.ins x = some t' → t.toL.Pairwise (· < ·) → t'.toL.Pairwise (· < ·) ∧ t'.toL.Perm (x :: t.toL)
  | .l, t', h, _ => by
    cases Option.some.inj h
    exact ⟨List.pairwise_cons.mpr ⟨(fun _ h => nomatch h), .nil⟩, .refl _⟩
  | .n a k b, t', h, hs => by
    obtain ⟨s1, s2, s3⟩ := List.pairwise_append.mp (show (a.toL ++ k :: b.toL).Pairwise (· < ·) from hs)
    obtain ⟨s4, s5⟩ := List.pairwise_cons.mp s2
    unfold Bt.ins at h
    by_cases h1 : x < k
    · rw [if_pos h1] at h
      cases q : a.ins x with
      | none => rw [q] at h; cases h
      | some a' =>
        rw [q] at h
        cases Option.some.inj h
        obtain ⟨p1, p2⟩ := Bt.ins_ok q s1
        refine ⟨List.pairwise_append.mpr ⟨p1, s2, fun u hu v hv => ?_⟩, ?_⟩
        · rcases List.mem_cons.mp (p2.mem_iff.mp hu) with e | hu
          · subst e
            rcases List.mem_cons.mp hv with e | hv
            · rw [e]; exact h1
            · exact Nat.lt_trans h1 (s4 v hv)
          · exact s3 u hu v hv
        · exact (p2.append_right _)
    · rw [if_neg h1] at h
      by_cases h2 : k < x
      · rw [if_pos h2] at h
        cases q : b.ins x with
        | none => rw [q] at h; cases h
        | some b' =>
          rw [q] at h
          cases Option.some.inj h
          obtain ⟨p1, p2⟩ := Bt.ins_ok q s5
          refine ⟨List.pairwise_append.mpr ⟨s1, List.pairwise_cons.mpr ⟨fun v hv => ?_, p1⟩, fun u hu v hv => ?_⟩, ?_⟩
          · rcases List.mem_cons.mp (p2.mem_iff.mp hv) with e | hv
            · rw [e]; exact h2
            · exact s4 v hv
          · rcases List.mem_cons.mp hv with e | hv
            · rw [e]; exact s3 u hu k List.mem_cons_self
            · rcases List.mem_cons.mp (p2.mem_iff.mp hv) with e | hv
              · rw [e]; exact Nat.lt_trans (s3 u hu k List.mem_cons_self) h2
              · exact s3 u hu v (List.mem_cons_of_mem _ hv)
          · show (a.toL ++ k :: b'.toL).Perm (x :: (a.toL ++ k :: b.toL))
            refine (((p2.cons k).trans (.swap x k _)).append_left a.toL).trans ?_
            exact List.perm_middle
      · rw [if_neg h2] at h
        cases h
theorem Bt.all_ok : ∀ {xs : List Nat} {t : Bt}, (Bt.all xs t).isSome = true → t.toL.Pairwise (· < ·) → (xs ++ t.toL).Nodup
  | [], t, _, hs => hs.imp fun h => Nat.ne_of_lt h
  | x :: xs, t, h, hs => by
    unfold Bt.all at h
    cases q : t.ins x with
    | none => rw [q] at h; cases h
    | some t' =>
      rw [q] at h
      obtain ⟨p1, p2⟩ := Bt.ins_ok q hs
      have h3 := Bt.all_ok (xs := xs) (t := t') h p1
      have h4 : (xs ++ t'.toL).Perm (x :: (xs ++ t.toL)) := (p2.append_left xs).trans List.perm_middle
      exact h4.nodup_iff.mp h3
theorem inj_of_nodup {α β : Type} {f : α → β} : ∀ {l : List α}, (l.map f).Nodup → ∀ a ∈ l, ∀ b ∈ l, f a = f b → a = b
  | [], _, a, ha, _, _, _ => nomatch ha
  | x :: l, h, a, ha, b, hb, e => by
    rw [List.map_cons] at h
    obtain ⟨h1, h2⟩ := List.nodup_cons.mp h
    rcases List.mem_cons.mp ha with ea | ha'
    · rcases List.mem_cons.mp hb with eb | hb'
      · rw [ea, eb]
      · subst ea
        exact absurd (by rw [e]; exact List.mem_map_of_mem hb') h1
    · rcases List.mem_cons.mp hb with eb | hb'
      · subst eb
        exact absurd (by rw [← e]; exact List.mem_map_of_mem ha') h1
      · exact inj_of_nodup h2 a ha' b hb' e
def hp2 (n t : Nat) : Int := reduceHash (Builtin.Tuple.tupleHashOf [hashInt n, hashInt t])
def pairs200 : List (Nat × Nat) := (List.range 200).flatMap fun n => (List.range 20).map fun t => (n, t)
def hpN (x : Nat × Nat) : Nat := (hp2 x.1 x.2 + 9223372036854775808).toNat
theorem pairs_apart : (Bt.all (pairs200.map hpN) .l).isSome = true := by decide +kernel
theorem hp2_inj {n t n' t' : Nat} (h1 : n < 200) (h2 : t < 20) (h3 : n' < 200) (h4 : t' < 20) (e : hp2 n t = hp2 n' t') : n = n' ∧ t = t' := by
  have nd := Bt.all_ok pairs_apart (.nil)
  rw [show (Bt.l).toL = [] from rfl, List.append_nil] at nd
  have hm : ∀ n t, n < 200 → t < 20 → (n, t) ∈ pairs200 := fun n t h1 h2 => List.mem_flatMap.mpr ⟨n, List.mem_range.mpr h1, List.mem_map.mpr ⟨t, List.mem_range.mpr h2, rfl⟩⟩
  have z := inj_of_nodup nd (n, t) (hm n t h1 h2) (n', t') (hm n' t' h3 h4) (by show (hp2 n t + _).toNat = (hp2 n' t' + _).toNat; rw [e])
  exact ⟨congrArg Prod.fst z, congrArg Prod.snd z⟩

open PySem.Spec PyProof.Rows L2 Evl
/-! ### rules -/
def natK (x : Nat × Nat) : List Key := [.inl (x.1 : Int), .inl (x.2 : Int)]
/-- keys that are pairs of small numbers -/
def Small (ks : List (List Key)) : Prop := ∃ l : List (Nat × Nat), ks = l.map natK ∧ (∀ x ∈ l, x.1 < 200 ∧ x.2 < 20) ∧ l.Nodup
theorem small_apart {P : Program} {w : World} {ks : List (List Key)} (h : Small ks) : (ks.map fun k => (tupleKind (mixKind P w)).hash k).Nodup := by
  obtain ⟨l, rfl, h1, h2⟩ := h
  rw [List.map_map]
  have e : ((fun k => (tupleKind (mixKind P w)).hash k) ∘ natK) = fun x : Nat × Nat => hp2 x.1 x.2 := rfl
  rw [e]
  refine List.pairwise_map.mpr (h2.imp_of_mem fun {a b} ha hb hab z => hab ?_)
  obtain ⟨e1, e2⟩ := hp2_inj (h1 a ha).1 (h1 a ha).2 (h1 b hb).1 (h1 b hb).2 z
  exact Prod.ext e1 e2
theorem kt_keys {H : Hp} : ∀ {kvs : List (List Key × V)} {xs : List (List Key × Addr × Value)}, KT H kvs xs → kvs.map (·.1) = xs.map (·.1)
  | [], _, r => by cases r; rfl
  | _ :: _, _, r => by
    cases r with
    | cons h t => rw [List.map_cons, List.map_cons, h.1, kt_keys t]
theorem kt_tups {H : Hp} : ∀ {kvs : List (List Key × V)} {xs : List (List Key × Addr × Value)}, KT H kvs xs → ∀ x ∈ xs, ∃ ys, H x.2.1 = some (.tup ys)
  | [], _, r => by cases r; exact fun x hx => nomatch hx
  | _ :: _, _, r => by
    cases r with
    | cons h t =>
      intro x hx
      rcases List.mem_cons.mp hx with e | hx
      · rw [e]; exact ⟨_, h.2.1⟩
      · exact kt_tups t x hx
/-- dict(d): a copy, d's keys pairs of small numbers -/
def rDictC : List V → Hp → VK → Prop := fun xs H Q => ∃ (a : Addr) (kvs : List (List Key × V)), xs = [.ref a] ∧ H a = some (.dT kvs) ∧ Small (kvs.map (·.1)) ∧ ∀ p, H p = none → Q (.ref p) (upd H p (.dT kvs))
theorem call_dictC {X : Cx} (hu : X.A.units + 64 < cLine) : CallR X (.type "dict") rDictC := by
  intro pins s σ H xs us Q I r q
  obtain ⟨a, kvs, rfl, hd, hs, q⟩ := q
  obtain ⟨u, rfl, rx⟩ := vals1 r
  cases rx
  obtain ⟨z, lo, xs, rel, dd⟩ := dt_of I.hok hd
  have hlen : xs.length = kvs.length := (Paired.length rel).symm
  have st : (tupleKind (mixKind X.prog X.w)).Stays := tupleKind_stays
  refine call_dict_dictH (knd := tupleKind (mixKind X.prog X.w)) st ?_ lo dd (fun x hx => ?_) ?_ (by rw [hlen]; exact z) fun h' hd' sb => ?_
  · show X.A.in1.in1.units < cLine
    have z : X.A.in1.in1.units = X.A.units + 1 + 1 := rfl
    rw [z]
    omega
  · obtain ⟨ys, hy⟩ := kt_tups rel x hx
    obtain ⟨its, rv, p, hz⟩ := I.tuple (SqT.of hy)
    exact p.typeIs
  · have e := small_apart (P := X.prog) (w := X.w) hs
    rw [kt_keys rel, List.map_map] at e
    exact e
  · have hm : (s.heap.objs.size == sysModules) = false := beq_eq_false_iff_ne.mpr (Nat.ne_of_gt I.big)
    obtain ⟨o, es, ep, hq', h2, h3, h4, _, h5⟩ := hd'
    refine ⟨.ref s.heap.objs.size, upd H s.heap.objs.size (.dT kvs), I.laid (t' := s.toks) (fun b u e => (sb.2 b (Nat.ne_of_lt (Heap.lt_size e))).trans (Heap.get?_push_of_some _ e)) (Nat.le_refl _) ⟨z, hm, xs, rel.keeps fun c ys ec => ?_, o, es, ep, hq', h2, h3, h4, h5⟩, rfl, q _ (I.hok.fresh (Nat.le_refl _))⟩
    rw [upd_ne (ne_of_none ec (I.hok.fresh (Nat.le_refl _)))]
    exact ec
/-- d.setdefault(k, v), d's keys tuples -/
def tDSetdT (td ty tx : TE) : TE := fun σ H Q => td σ H fun x H1 => ∃ a, x = .ref a ∧ IsD H1 a ∧ ty σ H1 fun y H2 => tx σ H2 fun z H3 => ∃ (kvs : List (List Key × V)) (k : List Key) (b : Addr), H3 a = some (.dT kvs) ∧ y = .ref b ∧ H3 b = some (.tup (k.map kV)) ∧ kvs.length < sizeLine ∧
  (∀ v, valV kvs k = some v → Q v H3) ∧ (valV kvs k = none → Q z (upd H3 a (.dT (putK kvs k z))))
theorem dT_put {X : Cx} {pins : List (Addr × Obj)} {σ : L2.St} {H : Hp} {s : Shared} {a b : Addr} {kvs : List (List Key × V)} {k : List Key} {d : V} {r : Value} {h' : Heap} {t' : Nat} {xs : List (List Key × Addr × Value)} (I : Inv X pins σ H s) (e : H a = some (.dT kvs)) (eb : H b = some (.tup (k.map kV))) (rel : KT H kvs xs) (hd : (a == sysModules) = false) (hl : kvs.length < sizeLine) (rd : RelV d r)
    (dd' : h'.DictOfH (tupleKind (mixKind X.prog X.w)) a (storedH xs k b r)) (hs : Heap.SameBut a s.heap h') : Inv X pins σ (upd H a (.dT (putK kvs k d))) { s with heap := h', toks := t' } := by
  obtain ⟨q, es, ep, hq, h2, h3, h4, _, h5⟩ := dd'
  have hz : (putK kvs k d).length ≤ sizeLine := by have := length_putK kvs k d; omega
  refine d_write I (by rw [e]; exact True.intro) hs ⟨q, hq⟩ ⟨hz, hd, _, (rel.put k eb rd).keeps fun c ys ec => ?_, q, es, ep, hq, h2, h3, h4, h5⟩
  rw [upd_ne (ne_of ec e (fun z => nomatch z))]
  exact ec
theorem pe_dsetdT {X : Cx} {o e f : Expr} {td ty tx : TE} {apos cpos : Pos} (hu : X.A.units + 1 < cLine) (ho : PE X o td) (he : PE X e ty) (hf : PE X f tx) (m : M2 X o "setdefault" apos e f cpos) : PE X (.Call (.Attribute o "setdefault" apos) [e, f] [] cpos) (tDSetdT td ty tx) := by
  refine ⟨fun pins s σ H Q I h => ?_⟩
  refine wpAny_Call_method m.base m.few m.line PySem.F.plainAttrs_dict PySem.F.slot_dict_setdefault PySem.F.type_dict_setdefault (thn (ho.run pins s σ H _ I h) fun u s1 ⟨x, H1, I1, rx, a, ex, d, q1⟩ => ?_)
  subst ex
  obtain rfl : u = Value.ref a := rx
  obtain ⟨t1, t2, _⟩ := isD_at I1 d
  refine ⟨t1, t2, ?_⟩
  rw [m.trees]
  refine Calls.callWith_builtin rfl (Calls.evalArgs_plain (Calls.spliced_cons (thn (he.run pins s1 σ H1 _ I1 q1) fun iv s2 ⟨y, H2, I2, ry, q2⟩ =>
    Calls.spliced_cons (thn (hf.run pins s2 σ H2 _ I2 q2) fun fv s3 ⟨z, H3, I3, rz, kvs, k, b, ea, ey, eb, hl, q3, q4⟩ => Calls.spliced_nil ?_))))
  subst ey
  cases (show iv = Value.ref b from ry)
  obtain ⟨z0, hd, xs, rel, dd⟩ := dt_of I3.hok ea
  have hz : xs.length ≤ sizeLine := by rw [← Paired.length rel]; exact z0
  refine call_setdefault_heap (hsz := hz) (tupleKind_room_in1 hu) (key_of I3.hok eb) hd dd (fun p hp => ?_) fun hn h' dd' hs => ?_
  · have q0 := rel.val k
    rw [hp] at q0
    cases l : valV kvs k with
    | none => rw [l] at q0; exact (show False from q0).elim
    | some v =>
      rw [l] at q0
      exact ⟨v, _, I3.tok _, q0, q3 v l⟩
  · have q0 := rel.val k
    rw [hn] at q0
    cases l : valV kvs k with
    | some v => rw [l] at q0; exact (show False from q0).elim
    | none => exact ⟨z, _, dT_put I3 ea eb rel hd hl rz dd' hs, rz, q4 l⟩
end J

/-! Own dicts by copies, setdefault; sorted positions. -/
namespace J
open PySem PySem.Spec PyProof.Rows L2 Evl
def natP (x : Nat × Nat) : D := .tup [.int x.1, .int x.2]
def leP (a b : Nat × Nat) : Bool := decide (a.1 < b.1 ∨ (a.1 = b.1 ∧ a.2 ≤ b.2))
/-- positions, rising -/
def riseL (l : List (Nat × Nat)) : List (Nat × Nat) := l.mergeSort leP
theorem riseL_perm (l : List (Nat × Nat)) : (riseL l).Perm l := List.mergeSort_perm _ _
theorem riseL_sorted (l : List (Nat × Nat)) : (riseL l).Pairwise fun a b => leP a b = true := by
  refine List.pairwise_mergeSort (fun a b c h1 h2 => ?_) (fun a b => ?_) l
  · have h1 := of_decide_eq_true h1
    have h2 := of_decide_eq_true h2
    exact decide_eq_true (by omega)
  · by_cases h : leP a b = true
    · rw [h]; rfl
    · have h := of_decide_eq_false (by simpa using h : leP a b = false)
      have : leP b a = true := decide_eq_true (by omega)
      rw [this]; simp
abbrev cast2 (x : Nat × Nat) : Int × Int := ((x.1 : Int), (x.2 : Int))
theorem swoL : SrtO.Swo lexB := by
  refine ⟨fun x y h => ?_, fun x y z h1 h2 => ?_⟩
  · have a := SrtO.lexB_iff.mp h
    refine SrtO.lexB_no.mpr ?_
    omega
  · have a := SrtO.lexB_no.mp h1
    have b := SrtO.lexB_no.mp h2
    refine SrtO.lexB_no.mpr ?_
    omega
theorem lexB_eqv {x y : Int × Int} : SrtO.eqv lexB x y = true → x = y := fun h => by
  obtain ⟨h1, h2⟩ := SrtO.eqv_iff.mp h
  have a := SrtO.lexB_no.mp h1
  have b := SrtO.lexB_no.mp h2
  exact Prod.ext (by omega) (by omega)
theorem stb_perm {l m : List (Int × Int)} (p : l.Perm m) : SrtO.Stb lexB l m := ⟨p, fun x => by
  have key : ∀ l : List (Int × Int), l.filter (SrtO.eqv lexB x) = List.replicate (l.filter (SrtO.eqv lexB x)).length x := fun l =>
    List.eq_replicate_iff.mpr ⟨rfl, fun b hb => (lexB_eqv (List.mem_filter.mp hb).2).symm⟩
  rw [key l, key m, (p.filter _).length_eq]⟩
theorem rise_eq {zs : List (Int × Int)} {l : List (Nat × Nat)} (h1 : SrtO.Srtd lexB zs) (h2 : zs.Perm (l.map cast2)) : zs = (riseL l).map cast2 := by
  refine SrtO.stb_uniq swoL h1 ?_ (stb_perm (h2.trans ((riseL_perm l).map _).symm))
  refine List.pairwise_map.mpr ((riseL_sorted l).imp fun {a b} h => SrtO.lexB_no.mpr ?_)
  have h := of_decide_eq_true h
  have e1 : (cast2 a).1 = (a.1 : Int) := rfl
  have e2 : (cast2 a).2 = (a.2 : Int) := rfl
  have e3 : (cast2 b).1 = (b.1 : Int) := rfl
  have e4 : (cast2 b).2 = (b.2 : Int) := rfl
  omega
section
variable [Tbs] {K : PySem.W.Frag} {σ : L2.St} {G G0 H0 G1 H : Hp} {ta tb tc te tx : TE} {d d1 d2 d3 : D} {ds es : List D} {x y v : V} {Dn : Ends} {tz : TS}
/-- sorted(d), d's keys positions -/
theorem f_sortedDN {kvs : List (List Key × V)} {l : List (Nat × Nat)} (ha : EvD K ta σ G (.tab kvs)) (hk : kvs.map (·.1) = l.map natK) : EvF K (tCB rSortedDT (tCons ta tNil)) σ G ((riseL l).map natP) := fun H e Q q =>
  a_one ha H e _ fun vs G1 H1 s1 r => by
    obtain ⟨v, rfl, rr⟩ := r.one
    obtain ⟨a, rfl, h1⟩ := rr.tab_of
    refine ⟨a, kvs, l.map cast2, rfl, s1.i _ _ h1, by rw [hk, List.map_map]; rfl, fun p zs hp h2 h3 h4 => ?_⟩
    have e3 := rise_eq h2 h3.perm
    have ex : ∀ (zs : List (Addr × Int × Int)), (∀ z ∈ zs, H1 z.1 = some (.tup [.int z.2.1, .int z.2.2])) → ∀ G2, Ex G2 H1 → ∃ G3, Step G2 H1 G3 H1 ∧ RpA K G3 (zs.map fun z => V.ref z.1) (zs.map fun z => D.tup [.int z.2.1, .int z.2.2]) := by
      intro zs hz
      induction zs with
      | nil => intro G2 e2; exact ⟨G2, Step.refl e2, .nil⟩
      | cons z zs ih =>
        intro G2 e2
        obtain ⟨G3, s3, r3⟩ := ih (fun z hz' => hz z (List.mem_cons_of_mem _ hz')) G2 e2
        have hz0 := hz z List.mem_cons_self
        have s4 := Step.tup s3.i hz0
        exact ⟨_, s3.trans s4, .cons (.tup upd_same (.cons (.int _) (.cons (.int _) .nil))) (r3.ex s4.g)⟩
    obtain ⟨G3, s3, r3⟩ := ex zs h4 G1 s1.i
    have e5 : (zs.map fun z => D.tup [.int z.2.1, .int z.2.2]) = (riseL l).map natP := by
      have e6 : (zs.map fun z => D.tup [.int z.2.1, .int z.2.2]) = (zs.map (·.2)).map fun k => D.tup [.int k.1, .int k.2] := by rw [List.map_map]; rfl
      rw [e6, e3, List.map_map]
      rfl
    rw [e5] at r3
    exact q p _ G3 _ ((s1.trans s3).trans (Step.own s3.i hp)) (s1.pre hp) (Step.back s3.i hp) upd_same r3
theorem RpA.pos : ∀ {l : List (Nat × Nat)} {vs : List V}, RpA K H vs (l.map natP) → vs.map (kOf H) = l.map cast2 ∧ ∀ x ∈ vs, ∃ t, x = .ref t ∧ H t = some (.tup [.int (kOf H x).1, .int (kOf H x).2])
  | [], _, h => by cases h; exact ⟨rfl, fun x hx => nomatch hx⟩
  | p :: l, _, h => by
    cases h with
    | cons h1 h2 =>
      obtain ⟨a, xs, rfl, ha, hx⟩ := h1.tup_of
      obtain ⟨u, w, rfl, ru, rw'⟩ := hx.two
      have e1 := ru.int_of
      have e2 := rw'.int_of
      subst e1 e2
      obtain ⟨e3, e4⟩ := RpA.pos h2
      have ek : kOf H (.ref a) = cast2 p := kOf_ref ha
      refine ⟨by rw [List.map_cons, List.map_cons, e3, ek], fun x hx => ?_⟩
      rcases List.mem_cons.mp hx with rfl | hx
      · exact ⟨a, rfl, by rw [ek]; exact ha⟩
      · exact e4 x hx
theorem RpA.of_pos : ∀ {l : List (Nat × Nat)} {vs : List V}, vs.map (kOf H) = l.map cast2 → (∀ x ∈ vs, ∃ t, x = .ref t ∧ H t = some (.tup [.int (kOf H x).1, .int (kOf H x).2])) → RpA K H vs (l.map natP)
  | [], [], _, _ => .nil
  | [], _ :: _, h, _ => nomatch h
  | _ :: _, [], h, _ => nomatch h
  | p :: l, v :: vs, h, hx => by
    rw [List.map_cons, List.map_cons] at h
    injection h with h1 h2
    obtain ⟨t, rfl, ht⟩ := hx v List.mem_cons_self
    rw [h1] at ht
    exact .cons (.tup ht (.cons (.int _) (.cons (.int _) .nil))) (RpA.of_pos h2 fun x hx' => hx x (List.mem_cons_of_mem _ hx'))
theorem kOf_ex {A B : Hp} (e : Ex A B) {x : V} {t : Addr} {a b : Int} (h : x = .ref t) (ht : A t = some (.tup [.int a, .int b])) : kOf B x = kOf A x := by
  subst h
  rw [kOf_ref ht, kOf_ref (e _ _ ht)]
/-- sorted(xs), xs positions -/
theorem f_sortedP {l : List (Nat × Nat)} (ha : EvD K ta σ G (.lst (l.map natP))) : EvF K (tCB (rSortedPO K) (tCons ta tNil)) σ G ((riseL l).map natP) := fun H e Q q =>
  a_one ha H e _ fun vs G1 H1 s1 r => by
    obtain ⟨v, rfl, rr⟩ := r.one
    obtain ⟨a, xs, rfl, h1, h2⟩ := rr.lst_of
    obtain ⟨e1, e2⟩ := h2.pos
    have ek : ∀ x ∈ xs, kOf H1 x = kOf G1 x := fun x hx => let ⟨t, h, ht⟩ := e2 x hx; kOf_ex s1.i h ht
    refine ⟨a, xs, kOf G1, rfl, .of (s1.i _ _ h1), fun x hx => ?_, fun ys p h3 h4 hp => ?_⟩
    · obtain ⟨t, h, ht⟩ := e2 x hx
      exact ⟨t, h, s1.i _ _ ht⟩
    · have hm : ys.map (kOf G1) = (riseL l).map cast2 := by
        refine rise_eq (SrtO.srtd_map h3) ?_
        rw [← e1]
        exact h4.perm.map _
      refine q p ys G1 _ (s1.trans (Step.own s1.i hp)) (s1.pre hp) (Step.back s1.i hp) upd_same (RpA.of_pos hm fun x hx => e2 x (h4.perm.mem_iff.mp hx))
/-! ### new dicts -/
def EvFT (te : TE) (σ : L2.St) (G : Hp) (kvs : List (List Key × V)) : Prop := ∀ H, Ex G H → ∀ Q : VK, (∀ p G' H', Step G H G' H' → H p = none → G' p = none → H' p = some (.dT kvs) → Q (.ref p) H') → te σ H Q
theorem ft_dictC {kvs : List (List Key × V)} (ha : EvD K ta σ G (.tab kvs)) (hs : Small (kvs.map (·.1))) : EvFT (tCB rDictC (tCons ta tNil)) σ G kvs := fun H e Q q =>
  a_one ha H e _ fun vs G1 H1 s1 r => by
    obtain ⟨v, rfl, rr⟩ := r.one
    obtain ⟨a, rfl, h1⟩ := rr.tab_of
    exact ⟨a, kvs, rfl, s1.i _ _ h1, hs, fun p hp => q p G1 _ (s1.trans (Step.own s1.i hp)) (s1.pre hp) (Step.back s1.i hp) upd_same⟩
theorem ft_dictT {kvs : List (List Key × V)} (ha : EvD K ta σ G (.lst ds)) (hd : ds = kvs.map fun kv => D.tup [.tup (kv.1.map kD), vD kv.2]) (hs : ∀ kv ∈ kvs, scalV kv.2 = true) : EvFT (tCB (rDictT K) (tCons ta tNil)) σ G (mergeT [] kvs) := fun H e Q q =>
  a_one ha H e _ fun vs G1 H1 s1 r => by
    subst hd
    obtain ⟨v, rfl, rr⟩ := r.one
    obtain ⟨a, xs, rfl, h1, h2⟩ := rr.lst_of
    obtain ⟨ps, ts, rfl, e3, pr⟩ := (h2.ex s1.i).pairs hs
    refine ⟨a, ps, ts, rfl, s1.i _ _ h1, pr, fun p hp => ?_⟩
    rw [e3]
    exact q p G1 _ (s1.trans (Step.own s1.i hp)) (s1.pre hp) (Step.back s1.i hp) upd_same
theorem q_asgFT {i : Nat} {kvs : List (List Key × V)} (e : Ex G H) (h : EvFT te σ G kvs) (k : ∀ p G1 H1, Step G H G1 H1 → H p = none → G1 p = none → H1 p = some (.dT kvs) → tz Dn (σ.set i (some (.ref p))) H1) : tSeq (tAsg te (gName i)) tz Dn σ H := h H e _ fun p G1 H1 s h1 h2 h3 => k p G1 H1 s h1 h2 h3
def setK (kvs : List (List Key × V)) (k : List Key) (v : V) : List (List Key × V) := if (valV kvs k).isSome = true then kvs else putK kvs k v
/-- p.setdefault(key, v), p an own dict in slot i -/
theorem s_dsetd {i : Nat} {p : Addr} {kvs : List (List Key × V)} {ks : List Key} (S : Step G0 H0 G H) (h0 : H0 p = none) (hp : G p = none) (hx : H p = some (.dT kvs)) (hi : σ[i]? = some (some (.ref p))) (hk : EvD K tb σ G d2) (hkd : d2 = .tup (ks.map kD)) (hv : EvD K te σ G d) (hf : d.flat = true) (hz : kvs.length < 1000000)
    (k : ∀ G1 H1, Step G0 H0 G1 H1 → Ex G G1 → G1 p = none → H1 p = some (.dT (setK kvs ks d.toV)) → Dn.nx σ H1) : tDrop (tDSetdT (tVar i) tb te) Dn σ H :=
  ⟨_, hi, p, rfl, .inr ⟨kvs, .inl hx⟩, hk H S.i _ fun y G1 H1 s1 r1 => (hv.mono s1.g) H1 s1.i _ fun z G2 H2 s2 r2 => by
    subst hkd
    obtain ⟨b, xs, rfl, hb, hxs⟩ := (r1.ex s2.g).tup_of
    have z := hxs.keys
    subst z
    have s := s1.trans s2
    obtain ⟨g2, x2⟩ := s.keep hp hx
    rw [(r2.flat hf).1]
    refine ⟨kvs, ks, b, x2, rfl, s2.i _ _ hb, by rw [sizeLine_eq]; omega, fun v hv => ?_, fun hn => ?_⟩
    · refine k G2 H2 (S.trans s) s.g g2 ?_
      unfold setK
      rw [hv]
      exact x2
    · refine k G2 _ ((S.trans s).mut h0 g2) s.g g2 ?_
      unfold setK
      rw [hn]
      exact upd_same⟩
end
/-- list(range(n)) -/
theorem f_listRg [Tbs] {K : PySem.W.Frag} {σ : L2.St} {G : Hp} {te : TE} {n : Nat} (h : EvD K te σ G (.int n)) (hn : n ≤ 1000000) : EvF K (tLstRg (tRg1 te)) σ G ((List.range n).map fun k : Nat => D.int k) := fun H e Q q =>
  h H e _ fun v G1 H1 s r => ⟨(n : Int), r.int_of, RgOk.of_le (by omega) (by omega) (by omega) (by omega), fun p hp => q p _ G1 _ (s.trans (Step.own s.i hp)) (s.pre hp) (Step.back s.i hp) upd_same (by
    have e1 : rgV 0 (n : Int) = (List.range n).map fun k : Nat => V.int k := by
      unfold rgV
      have : ((n : Int) - 0).toNat = n := by omega
      rw [this]
      refine List.map_congr_left fun k _ => ?_
      rw [Int.zero_add]
    rw [e1]
    generalize List.range n = l
    induction l with
    | nil => exact .nil
    | cons a l ih => exact .cons (.int _) ih)⟩
theorem cr_sortedPOK {X : Cx} (K : PySem.W.Frag) (h : X.K = K) : CallR X (.builtin "sorted") (rSortedPO K) := h ▸ cr_sortedPO
end J

/-! Chains of three comparisons. -/
namespace J
open PySem PySem.Spec PyProof.Rows L2 Evl
def tChain3 (r r' r'' : R2) (ta tb tc td : TE) : TE := fun σ H Q => ta σ H fun x H1 => tb σ H1 fun y H2 => r x y H2 fun z H3 => ∃ k, z = .bl k ∧
  (if k = true then tc σ H3 fun w H4 => r' y w H4 fun z2 H5 => ∃ k2, z2 = .bl k2 ∧ (if k2 = true then td σ H5 fun u H6 => r'' w u H6 Q else Q (.bl false) H5) else Q (.bl false) H3)
theorem pt_chain3 {X : Cx} {op op' op'' : CmpOp} {r r' r'' : R2} {a b c d : Expr} {ta tb tc td : TE} {pos : Pos} (ho : OpR X (compareOp op) r) (ho' : OpR X (compareOp op') r') (ho'' : OpR X (compareOp op'') r'') (ha : PE X a ta) (hb : PE X b tb) (hc : PE X c tc) (hd : PE X d td)
    (hm : lastMarks [op, op', op''] [b, c, d] = false := by with_unfolding_all rfl) : PT X (.Compare a [op, op', op''] [b, c, d] pos) (tTest (tChain3 r r' r'' ta tb tc td)) := by
  refine ⟨fun pins s σ H Q I h => ?_⟩
  refine isTrue_chain (thn (ha.run pins s σ H _ I h) fun v s1 ⟨x, H1, I1, r1, q1⟩ => test_link (thn (hb.run pins s1 σ H1 _ I1 q1) fun u s2 ⟨y, H2, I2, r2, q2⟩ =>
    thn (ho pins s2 σ H2 x y v u _ I2 r1 r2 q2) fun e s3 ⟨z, H3, I3, r3, k, ez, q3⟩ => ?_)) hm
  subst ez
  cases r3
  refine wpAny_truthy_bool ?_
  cases k with
  | false =>
    obtain ⟨k', e', q'⟩ := q3
    cases e'
    exact ite_ff ⟨H3, I3, q'⟩
  | true =>
    refine ite_tt (test_link (thn (hc.run pins s3 σ H3 _ I3 q3) fun w' s4 ⟨z', H4, I4, r4, q4⟩ => thn (ho' pins s4 σ H4 y z' u w' _ I4 r2 r4 q4) fun d' s5 ⟨z2, H5, I5, r5, k2, e2, q5⟩ => ?_))
    subst e2
    cases r5
    refine wpAny_truthy_bool ?_
    cases k2 with
    | false =>
      obtain ⟨k', e', q'⟩ := q5
      cases e'
      exact ite_ff ⟨H5, I5, q'⟩
    | true =>
      refine ite_tt (test_last (thn (hd.run pins s5 σ H5 _ I5 q5) fun w2 s6 ⟨z3, H6, I6, r6, q6⟩ => thn (ho'' pins s6 σ H6 z' z3 w' w2 _ I6 r4 r6 q6) fun d2 s7 ⟨z4, H7, I7, r7, k3, e3, q7⟩ => ?_))
      subst e3
      cases r7
      exact wpAny_truthy_bool ⟨H7, I7, q7⟩
theorem cr_minK {X : Cx} (K : PySem.W.Frag) (h : X.K = K) (hc : X.calm = true) : CallR X (.builtin "min") (rMin K) := h ▸ cr_min hc
section
variable [Tbs] {K : PySem.W.Frag} {σ : L2.St} {p : Addr} {G H : Hp} {ta tb tc td te : TE}
theorem b_chain3 {i j k l : Int} (ha : EvD K ta σ G (.int i)) (hb : EvD K tb σ G (.int j)) (hc : EvD K tc σ G (.int k)) (hd : EvD K td σ G (.int l)) (h1 : i ≤ j) (h2 : j ≤ k) (h3 : k ≤ l) :
    EvB (tTest (tChain3 (rI0 fun i j => .bl (decide (i ≤ j))) (rI0 fun i j => .bl (decide (i ≤ j))) (rI0 fun i j => .bl (decide (i ≤ j))) ta tb tc td)) σ G true := fun H e Q q =>
  ha H e _ fun x G1 H1 s1 r1 => (hb.mono s1.g) H1 s1.i _ fun y G2 H2 s2 r2 => ⟨i, j, r1.int_of, r2.int_of, true, congrArg V.bl (decide_eq_true h1), by
    rw [if_pos rfl]
    exact (hc.mono (s1.g.trans s2.g)) H2 s2.i _ fun z G3 H3 s3 r3 => ⟨j, k, r2.int_of, r3.int_of, true, congrArg V.bl (decide_eq_true h2), by
      rw [if_pos rfl]
      exact (hd.mono ((s1.g.trans s2.g).trans s3.g)) H3 s3.i _ fun w G4 H4 s4 r4 => ⟨k, l, r3.int_of, r4.int_of, true, congrArg V.bl (decide_eq_true h3), q G4 H4 (((s1.trans s2).trans s3).trans s4)⟩⟩⟩
theorem r_fdivK {n lo hi : Nat} (ha : EvD K ta σ G (.int n)) (hb : EvR K p tb σ G (Btw lo hi)) (h0 : 0 < lo) (h1 : hi ≤ 1000000) : EvR K p (tOp (rI CDiv fun i j => .int (i / j)) ta tb) σ G (Btw 0 n) :=
  r_op (r_n ha) hb fun x y d1 d2 G1 H1 Q e1 e2 r1 r2 rp1 rp2 q => by
    obtain ⟨i, rfl, h2, h3⟩ := r1
    obtain ⟨j, rfl, h4, h5⟩ := r2
    refine ⟨i, j, rp1.int_of, rp2.int_of, ⟨by omega, by omega⟩, ?_⟩
    have e : ((i : Int) / (j : Int)) = ((i / j : Nat) : Int) := (Int.natCast_ediv _ _).symm
    show Q (.int ((i : Int) / (j : Int))) H1
    rw [e]
    exact q _ (.int ((i / j : Nat) : Int)) ⟨i / j, rfl, Nat.zero_le _, by have := Nat.div_le_self i j; omega⟩ (.int _)
/-- min(xs) -/
theorem e_minL {ns : List Int} {m : Int} {ds : List D} (ha : EvD K ta σ G (.lst ds)) (h : ds = ns.map D.int) (hm : m ∈ ns) (hl : ∀ x ∈ ns, m ≤ x) : EvD K (tCB (rMin K) (tCons ta tNil)) σ G (.int m) :=
  e_cb (a_one ha) fun vs G1 H1 Q e1 e2 r k => by
    obtain ⟨v, rfl, rr⟩ := r.one
    obtain ⟨a, xs, rfl, hs, ha⟩ := rr.lst_of
    subst h
    have := ha.ints
    subst this
    refine ⟨a, ns, rfl, .of (e2 _ _ hs), List.length_pos_of_mem hm, fun m' h1 h2 => ?_⟩
    have e : m' = m := Int.le_antisymm (h2 m hm) (hl m' h1)
    subst e
    exact k _ G1 H1 (Step.refl e2) (.int _)
end
end J

/-! Own objects, several at once. -/
namespace J
open PySem PySem.Spec PyProof.Rows L2 Evl
def over (G M : Hp) : Hp := fun b => match M b with
  | some o => some o
  | none => G b
def hideM (M H : Hp) : Hp := fun b => match M b with
  | some _ => none
  | none => H b
theorem over_some {G M : Hp} {b : Addr} {o : HO} (h : M b = some o) : over G M b = some o := by unfold over; rw [h]
theorem over_none {G M : Hp} {b : Addr} (h : M b = none) : over G M b = G b := by unfold over; rw [h]
theorem hideM_some {H M : Hp} {b : Addr} {o : HO} (h : M b = some o) : hideM M H b = none := by unfold hideM; rw [h]
theorem hideM_none {H M : Hp} {b : Addr} (h : M b = none) : hideM M H b = H b := by unfold hideM; rw [h]
theorem hideM_of {H M : Hp} {b : Addr} {o : HO} (h : hideM M H b = some o) : M b = none ∧ H b = some o := by
  cases q : M b with
  | some u => rw [hideM_some q] at h; cases h
  | none => rw [hideM_none q] at h; exact ⟨rfl, h⟩
/-- own objects: they stand, they may change yet -/
structure Owns (M G H : Hp) : Prop where
  g : ∀ b o, M b = some o → G b = none
  h : ∀ b o, M b = some o → H b = some o
  t : ∀ b o, M b = some o → isTup o = false ∧ isCode o = false
section
variable [Tbs] {K : PySem.W.Frag} {M M1 G G0 H0 G1 H H1 G' H' : Hp} {v : V} {d : D}
theorem Owns.nil : Owns (fun _ => none) G H := ⟨(fun _ _ h => nomatch h), (fun _ _ h => nomatch h), (fun _ _ h => nomatch h)⟩
theorem Owns.step (o : Owns M G H) (s : Step G H G1 H1) : Owns M G1 H1 := ⟨fun b u hb => s.n b u (o.g b u hb) (o.h b u hb) (o.t b u hb).1, fun b u hb => s.h.k b u (o.h b u hb) (isTbl_code (o.t b u hb).2), o.t⟩
theorem Owns.ex (o : Owns M G H) (e : Ex G H) : Ex (over G M) H := by
  refine ⟨fun b u hb t => ?_, fun b ps hb => ?_⟩
  · cases q : M b with
    | some w =>
      rw [over_some q] at hb
      cases hb
      exact o.h b _ q
    | none => rw [over_none q] at hb; exact e.k b u hb t
  · cases q : M b with
    | some w =>
      rw [over_some q] at hb
      cases hb
      have := (o.t b _ q).2
      cases this
    | none => rw [over_none q] at hb; exact e.t b ps hb
theorem Owns.gg (o : Owns M G H) : Ex G (over G M) := .of fun b u hb => by
  cases q : M b with
  | some w => rw [o.g b w q] at hb; cases hb
  | none => rw [over_none q]; exact hb
/-- behind a step that took own objects as standing, they are one's own again -/
theorem Step.thawM (o : Owns M G H) (s : Step (over G M) H G' H') : ∃ G2, Step G H G2 H' ∧ Owns M G2 H' ∧ (∀ b u, M b = none → G' b = some u → G2 b = some u) ∧ (∀ b, G' b = none → G2 b = none) ∧ ∀ b u, M b = some u → G' b = some u := by
  have gM : ∀ b u, M b = some u → G' b = some u := fun b u hb => s.g.k b u (over_some hb) (isTbl_code (o.t b u hb).2)
  have k1 : ∀ b, M b = none → hideM M G' b = G' b := fun b hb => hideM_none hb
  have k2 : ∀ b u, M b = some u → hideM M G' b = none := fun b u hb => hideM_some hb
  generalize hideM M G' = G2 at k1 k2
  have np : ∀ b u, G b = some u → M b = none := fun b u hb => by
    cases q : M b with
    | none => rfl
    | some w => rw [o.g b w q] at hb; cases hb
  have n2 : ∀ b u, G2 b = some u → M b = none := fun b u hb => by
    cases q : M b with
    | none => rfl
    | some w => rw [k2 b w q] at hb; cases hb
  have hM : ∀ b u, M b = some u → H' b = some u := fun b u hb => s.h.k b u (o.h b u hb) (isTbl_code (o.t b u hb).2)
  refine ⟨G2, ⟨⟨fun b u hb t => ?_, fun b ps hb => ?_⟩, ⟨fun b u hb t => ?_, fun b ps hb => ?_⟩, s.h, fun b u h1 h2 h3 => ?_, fun b u h1 h2 h3 => ?_⟩, ⟨fun b u hb => k2 b u hb, hM, o.t⟩, fun b u z h => (by rw [k1 b z]; exact h), fun b h => ?_, gM⟩
  · have z := np b u hb
    rw [k1 b z]
    exact s.g.k b u (by rw [over_none z]; exact hb) t
  · have z := np b _ hb
    obtain ⟨ps', h1, g⟩ := s.g.t b ps (by rw [over_none z]; exact hb)
    refine ⟨ps', by rw [k1 b z]; exact h1, fun ht => ?_⟩
    obtain ⟨h2, h3⟩ := g ht
    refine ⟨h2, fun pos cv hc => (h3 pos cv hc).elim .inl fun ⟨c, e1, e2⟩ => .inr ⟨c, e1, ?_⟩⟩
    have zc : M c = none := by
      cases q : M c with
      | none => rfl
      | some w =>
        rw [gM c w q] at e2
        cases e2
        have := (o.t c _ q).2
        cases this
    rw [k1 c zc]
    exact e2
  · have z := n2 b u hb
    rw [k1 b z] at hb
    exact s.i.k b u hb t
  · have z := n2 b _ hb
    rw [k1 b z] at hb
    exact s.i.t b ps hb
  · cases z : M b with
    | some w => exact k2 b w z
    | none => rw [k1 b z]; exact s.n b u (by rw [over_none z]; exact h1) h2 h3
  · have z : M b = none := by
      cases z : M b with
      | none => rfl
      | some w => rw [o.h b w z] at h1; cases h1
    rw [k1 b z]
    exact s.c b u h1 h2 h3
  · cases z : M b with
    | some w => exact k2 b w z
    | none => rw [k1 b z]; exact h
/-! ### steps beside own objects that may change -/
theorem Owns.hide_ex (o : Owns M G H) (e : Ex G H) : Ex G (hideM M H) := by
  have np : ∀ b u, G b = some u → M b = none := fun b u hb => by
    cases q : M b with
    | none => rfl
    | some w => rw [o.g b w q] at hb; cases hb
  refine ⟨fun b u hb t => by rw [hideM_none (np b u hb)]; exact e.k b u hb t, fun b ps hb => ?_⟩
  obtain ⟨ps', h1, gr⟩ := e.t b ps hb
  refine ⟨ps', by rw [hideM_none (np b _ hb)]; exact h1, fun ht => ?_⟩
  obtain ⟨h2, h3⟩ := gr ht
  refine ⟨h2, fun pos cv hc => (h3 pos cv hc).elim .inl fun ⟨c, e1, e2⟩ => .inr ⟨c, e1, ?_⟩⟩
  rw [hideM_none]
  · exact e2
  · cases q : M c with
    | none => rfl
    | some w =>
      rw [o.h c w q] at e2
      cases e2
      have := (o.t c _ q).2
      cases this
theorem hideM_ex : Ex (hideM M H) H := .of fun b o hb => (hideM_of hb).2
theorem Step.startM (e : Ex G H) (o : Owns M G H) : Step G (hideM M H) G H := ⟨Ex.refl _, e, hideM_ex, fun _ _ h _ _ => h, fun b u h1 h2 h3 => by
  cases q : M b with
  | some w =>
    rw [o.h b w q] at h2
    cases h2
    rw [(o.t b _ q).2] at h3
    cases h3
  | none => rw [hideM_none q, h2] at h1; cases h1⟩
/-- what stood ahead where the own objects are new, through a step that changes them -/
theorem Step.transM (a : Step G0 H0 G H) (o : Owns M G H) (hf : ∀ b u, M b = some u → H0 b = none) (s : Step G (hideM M H) G1 H1) : Step G0 H0 G1 H1 := by
  have ne : ∀ b u, H0 b = some u → M b = none := fun b u hb => by
    cases q : M b with
    | none => rfl
    | some w => rw [hf b w q] at hb; cases hb
  have eh : Ex H0 (hideM M H) := by
    refine ⟨fun b u hb t => by rw [hideM_none (ne b u hb)]; exact a.h.k b u hb t, fun b ps hb => ?_⟩
    obtain ⟨ps', h1, gr⟩ := a.h.t b ps hb
    refine ⟨ps', by rw [hideM_none (ne b _ hb)]; exact h1, fun ht => ?_⟩
    obtain ⟨h2, h3⟩ := gr ht
    refine ⟨h2, fun pos cv hc => (h3 pos cv hc).elim .inl fun ⟨c, e1, e2⟩ => .inr ⟨c, e1, ?_⟩⟩
    rw [hideM_none]
    · exact e2
    · cases q : M c with
      | none => rfl
      | some w =>
        rw [o.h c w q] at e2
        cases e2
        have := (o.t c _ q).2
        cases this
  refine ⟨a.g.trans s.g, s.i, eh.trans s.h, fun x u h1 h2 h3 => ?_, fun x u h1 h2 h3 => ?_⟩
  · have z := ne x u h2
    cases u with
    | tbl ps =>
      obtain ⟨ps', h', _⟩ := a.h.t x ps h2
      exact s.n x _ (a.n x _ h1 h2 h3) (by rw [hideM_none z]; exact h') rfl
    | _ => exact s.n x _ (a.n x _ h1 h2 h3) (by rw [hideM_none z]; exact a.h.k x _ h2 rfl) h3
  · cases z : hideM M H x with
    | none => exact s.c x u z h2 h3
    | some w =>
      obtain ⟨n, z⟩ := hideM_of z
      have hu : isCode w = true := by
        cases w with
        | tbl _ => rfl
        | ext _ => rfl
        | _ =>
          have h' := s.h.k x _ (by rw [hideM_none n]; exact z) rfl
          rw [h2] at h'
          cases h'
          exact h3
      have h' := a.c x w h1 z hu
      intro z2
      exact h' (fresh_back s.g z2)
theorem hide_hideM {p : Addr} : hideM M (hide p H) = hide p (hideM M H) := by
  funext b
  by_cases z : b = p
  · subst z
    rw [hide_p]
    cases q : M b with
    | some w => exact hideM_some q
    | none => rw [hideM_none q, hide_p]
  · rw [hide_ne z]
    cases q : M b with
    | some w => rw [hideM_some q, hideM_some q]
    | none => rw [hideM_none q, hideM_none q, hide_ne z]
theorem Sd.transM {p : Addr} (a : Sd p G0 H0 G H) (o : Owns M G H) (hf : ∀ b u, M b = some u → H0 b = none) (hp : M p = none) (s : Step G (hideM M H) G1 H1) : Sd p G0 H0 G1 H1 := by
  have hd := a.d
  obtain ⟨ms, hm, ok⟩ := hd
  have k := s.keep (p := p) a.g (by rw [hideM_none hp]; exact hm)
  refine ⟨a.s.transM o (fun b u hb => ?_) s, k.1, ⟨ms, k.2, ok⟩⟩
  have n : b ≠ p := fun z => by rw [z, hp] at hb; cases hb
  rw [hide_ne n]
  exact hf b u hb
/-! ### data without lists -/
mutual
def D.tupO : D → Bool
  | .tup ds => D.tupOA ds
  | .lst _ => false
  | .tab _ => false
  | .dic _ => false
  | _ => true
def D.tupOA : List D → Bool
  | [] => true
  | d :: ds => d.tupO && D.tupOA ds
end
mutual
theorem Rp.off (tr : ∀ b xs, G' b = some (.tup xs) → G1 b = some (.tup xs)) : ∀ {d : D} {v : V}, Rp K G' v d → d.tupO = true → Rp K G1 v d
  | .non, _, h, _ => by cases h; exact .non
  | .bl _, _, h, _ => by cases h; exact .bl _
  | .int _, _, h, _ => by cases h; exact .int _
  | .str _, _, h, _ => by cases h; exact .str _
  | .tup _, _, h, p => by
    cases h with
    | tup hs ha => exact .tup (tr _ _ hs) (RpA.off tr ha p)
  | .lst _, _, h, p => by cases p
  | .tab _, _, h, p => by cases p
  | .dic _, _, h, p => by cases p
theorem RpA.off (tr : ∀ b xs, G' b = some (.tup xs) → G1 b = some (.tup xs)) : ∀ {ds : List D} {vs : List V}, RpA K G' vs ds → D.tupOA ds = true → RpA K G1 vs ds
  | [], _, h, _ => by cases h; exact .nil
  | d :: ds, _, h, p => by
    cases h with
    | cons h1 h2 =>
      have q : (d.tupO && D.tupOA ds) = true := p
      rw [Bool.and_eq_true] at q
      exact .cons (Rp.off tr h1 q.1) (RpA.off tr h2 q.2)
end
theorem tupOA_map {α : Type} {f : α → D} (h : ∀ x, (f x).tupO = true) : ∀ l : List α, D.tupOA (l.map f) = true
  | [] => rfl
  | x :: l => by
    show ((f x).tupO && D.tupOA (l.map f)) = true
    rw [h x, tupOA_map h l]; rfl
/-- a tuple stands where no own object does -/
theorem off_tr (o : Owns M G H) (tr : ∀ b u, M b = none → G' b = some u → G1 b = some u) (gM : ∀ b u, M b = some u → G' b = some u) : ∀ b xs, G' b = some (.tup xs) → G1 b = some (.tup xs) := fun b xs hb => by
  cases q : M b with
  | none => exact tr b _ q hb
  | some w =>
    rw [gM b w q] at hb
    cases hb
    have := (o.t b _ q).1
    cases this
variable {σ : L2.St} {te : TE} {t : TT} {b : Bool} {ds : List D} {Dn : Ends} {tu tw tz : TS} {i : Nat}
/-- a value that reads own objects, of tuples and flat things alone -/
theorem EvD.own (h : EvD K te σ (over G M) d) (hd : d.tupO = true) (e : Ex G H) (o : Owns M G H) (Q : VK) (k : ∀ v G1 H1, Step G H G1 H1 → Owns M G1 H1 → Rp K G1 v d → Q v H1) : te σ H Q :=
  h H (o.ex e) _ fun v G1 H1 s r => by
    obtain ⟨G2, s2, o2, tr, _, gM⟩ := s.thawM o
    exact k v G2 H1 s2 o2 (r.off (off_tr o tr gM) hd)
theorem EvF.own (h : EvF K te σ (over G M) ds) (hd : D.tupOA ds = true) (e : Ex G H) (o : Owns M G H) (Q : VK) (k : ∀ p xs G1 H1, Step G H G1 H1 → Owns M G1 H1 → H p = none → G1 p = none → H1 p = some (.lst xs) → RpA K G1 xs ds → Q (.ref p) H1) : te σ H Q :=
  h H (o.ex e) _ fun p xs G1 H1 s h1 h2 h3 r => by
    obtain ⟨G2, s2, o2, tr, fr, gM⟩ := s.thawM o
    exact k p xs G2 H1 s2 o2 h1 (fr p h2) h3 (r.off (off_tr o tr gM) hd)
theorem EvB.own (h : EvB t σ (over G M) b) (e : Ex G H) (o : Owns M G H) (Q : Bool → Hp → Prop) (k : ∀ G1 H1, Step G H G1 H1 → Owns M G1 H1 → Q b H1) : t σ H Q :=
  h H (o.ex e) _ fun G1 H1 s => by
    obtain ⟨G2, s2, o2, _⟩ := s.thawM o
    exact k G2 H1 s2 o2
theorem q_asgM (e : Ex G H) (o : Owns M G H) (h : EvD K te σ (over G M) d) (hd : d.tupO = true) (k : ∀ v G1 H1, Step G H G1 H1 → Owns M G1 H1 → Rp K G1 v d → tz Dn (σ.set i (some v)) H1) : tSeq (tAsg te (gName i)) tz Dn σ H := h.own hd e o _ k
theorem q_asgFM (e : Ex G H) (o : Owns M G H) (h : EvF K te σ (over G M) ds) (hd : D.tupOA ds = true) (k : ∀ p xs G1 H1, Step G H G1 H1 → Owns M G1 H1 → H p = none → G1 p = none → H1 p = some (.lst xs) → RpA K G1 xs ds → tz Dn (σ.set i (some (.ref p))) H1) : tSeq (tAsg te (gName i)) tz Dn σ H := h.own hd e o _ k
theorem s_ifM (e : Ex G H) (o : Owns M G H) (h : EvB t σ (over G M) b) (h1 : b = true → ∀ G1 H1, Step G H G1 H1 → Owns M G1 H1 → tu Dn σ H1) (h2 : b = false → ∀ G1 H1, Step G H G1 H1 → Owns M G1 H1 → tw Dn σ H1) : tIfS t tu tw Dn σ H :=
  h.own e o _ fun G1 H1 s o1 => by
    cases b with
    | true => exact h1 rfl G1 H1 s o1
    | false => exact h2 rfl G1 H1 s o1
theorem q_whenM (e : Ex G H) (o : Owns M G H) (h : EvB t σ (over G M) b) (h1 : b = true → ∀ G1 H1, Step G H G1 H1 → Owns M G1 H1 → tu { Dn with nx := tz Dn } σ H1) (h2 : b = false → ∀ G1 H1, Step G H G1 H1 → Owns M G1 H1 → tz Dn σ H1) : tSeq (tIfS t tu tNext) tz Dn σ H := s_ifM (Dn := { Dn with nx := tz Dn }) e o h h1 h2
theorem s_retM (e : Ex G H) (o : Owns M G H) (h : EvD K te σ (over G M) d) (hd : d.tupO = true) (k : ∀ v G1 H1, Step G H G1 H1 → Owns M G1 H1 → Rp K G1 v d → Dn.rt v H1) : tRet te Dn σ H := h.own hd e o _ k
theorem s_retFM (e : Ex G H) (o : Owns M G H) (h : EvF K te σ (over G M) ds) (hd : D.tupOA ds = true) (k : ∀ p xs G1 H1, Step G H G1 H1 → Owns M G1 H1 → H p = none → G1 p = none → H1 p = some (.lst xs) → RpA K G1 xs ds → Dn.rt (.ref p) H1) : tRet te Dn σ H := h.own hd e o _ k
/-- one own object changes -/
theorem Owns.upd {l : Addr} {u w : HO} (o : Owns M G H) (hl : M l = some u) (hw : isTup w = false ∧ isCode w = false) : Owns (L2.upd M l w) G (L2.upd H l w) := by
  refine ⟨fun b x hb => ?_, fun b x hb => ?_, fun b x hb => ?_⟩
  · by_cases z : b = l
    · subst z; exact o.g b u hl
    · rw [upd_ne z] at hb; exact o.g b x hb
  · by_cases z : b = l
    · subst z; rw [upd_same] at hb ⊢; exact hb
    · rw [upd_ne z] at hb ⊢; exact o.h b x hb
  · by_cases z : b = l
    · subst z; rw [upd_same] at hb; cases hb; exact hw
    · rw [upd_ne z] at hb; exact o.t b x hb
/-! ### fields -/
/-- o.f, o an instance whose field f stands -/
theorem e_fld {C dx o : Addr} {fs : List (Str × V)} {f : Str} {w : V} (h : ∀ H, Ex G H → ∀ Q : VK, (∀ G' H', Step G H G' H' → Q (.ref o) H') → te σ H Q) (hi : G o = some (.ins C dx fs)) (c : Cls K C) (n : NoAttr K C f) (hl : fs.lookup f = some w) (r : Rp K G w d) : EvD K (tFld K te f) σ G d := fun H e Q q =>
  h H e _ fun G1 H1 s => ⟨o, C, dx, fs, w, rfl, s.i.k _ _ (s.g.k _ _ hi rfl) rfl, c, n, hl, q w G1 H1 s (r.ex s.g)⟩
theorem o_var {j : Nat} {o : Addr} (h : σ[j]? = some (some (.ref o))) : ∀ H, Ex G H → ∀ Q : VK, (∀ G' H', Step G H G' H' → Q (.ref o) H') → tVar j σ H Q := fun H e Q q => ⟨_, h, q G H (Step.refl e)⟩
end
end J

/-! Own classes: makers, methods, fields. -/
namespace J
open PySem PySem.Spec PyProof.Rows L2 Evl
/-- the class of a name -/
abbrev cA (K : PySem.W.Frag) (x : Str) : Addr := He.ga K x
/-- a method that stands in a class, with its promise -/
structure Dm (P : Program) (w : World) (K : PySem.W.Frag) (mg : Str → Option Value) (base : Heap) (k : Nat) (x m : Str) (ps : List Str) (sp : Sp) : Prop where
  ex : ∃ f fd, FnOk P w K mg base CX0 k f fd ps sp ∧ Binds K fd ps [] ∧ Cls K (cA K x) ∧ Meth K (cA K x) m f
/-- a class that makes instances by an __init__ with its promise -/
structure Dc (P : Program) (w : World) (K : PySem.W.Frag) (mg : Str → Option Value) (base : Heap) (k : Nat) (x : Str) (ps : List Str) (sp : Sp) : Prop where
  ex : ∃ f fd, FnOk P w K mg base CX0 k f fd ps sp ∧ Binds K fd ps [] ∧ L2.Mk K (cA K x) f ∧ mg x = some (.ref (cA K x))
theorem pe_me {X : Cx} {k : Nat} {x m : Str} {ps : List Str} {sp : Sp} {o e : Expr} {es : List Expr} {ta : TE} {t : TA} {pos apos : Pos} {pl : Sem Bool} (D : Dm X.prog X.w X.K X.mg X.base k x m ps sp) (hr : Room k X.A) (he : PE X o ta) (ha : PA X (e :: es) t)
    (hst : starEach (e :: es) X.env = (false, eval e X.env) :: starEach es X.env := by rfl) (hpl : (backTo pos (starEach es X.env)).any (·.1) = false := by rfl)
    (ht : eval (.Call (.Attribute o m apos) (e :: es) [] pos) X.env = (do
      let ov ← eval o X.env
      standAt apos.atName
      let (f, first) ← holding [ov] (getMethod ov m pl)
      callWith pos f first (backTo pos (starEach (e :: es) X.env)) (backToKw pos (keywordEach [] X.env))) := by rfl) :
    PE X (.Call (.Attribute o m apos) (e :: es) [] pos) (tMeth (cA X.K x) m sp [] E0 ta t) := let ⟨f, fd, F, b, c, M⟩ := D.ex; pe_meth he c M F hr b .nil pass0 ha hst hpl ht
theorem pe_me0 {X : Cx} {k : Nat} {x m : Str} {ps : List Str} {sp : Sp} {o : Expr} {ta : TE} {pos apos : Pos} {pl : Sem Bool} (D : Dm X.prog X.w X.K X.mg X.base k x m ps sp) (hr : Room k X.A) (he : PE X o ta)
    (ht : eval (.Call (.Attribute o m apos) [] [] pos) X.env = (do
      let ov ← eval o X.env
      standAt apos.atName
      let (f, first) ← holding [ov] (getMethod ov m pl)
      callWith pos f first (backTo pos (starEach [] X.env)) (backToKw pos (keywordEach [] X.env))) := by rfl) :
    PE X (.Call (.Attribute o m apos) [] [] pos) (tMeth (cA X.K x) m sp [] E0 ta tNil) := let ⟨f, fd, F, b, c, M⟩ := D.ex; pe_meth0 he c M F hr b .nil pass0 ht
theorem pe_mk {X : Cx} {k : Nat} {x : Str} {ps : List Str} {sp : Sp} {p pos : Pos} {e : Expr} {es : List Expr} {t : TA} (D : Dc X.prog X.w X.K X.mg X.base k x ps sp) (hr : Room (k + 1) X.A) (hg : Gl X x) (ha : PA X (e :: es) t)
    (hdb : (x == ("__debug__" : Str)) = false := by decide) (he : starEach (e :: es) X.env = (false, eval e X.env) :: starEach es X.env := by rfl) (hpl : (backTo pos (starEach es X.env)).any (·.1) = false := by rfl) :
    PE X (.Call (.Name x p) (e :: es) [] pos) (tMake (cA X.K x) sp [] E0 t) := let ⟨f, fd, F, b, M, m⟩ := D.ex; pe_make M F hr hg m b .nil pass0 ha hdb he hpl
theorem pe_mk0 {X : Cx} {k : Nat} {x : Str} {ps : List Str} {sp : Sp} {p pos : Pos} (D : Dc X.prog X.w X.K X.mg X.base k x ps sp) (hr : Room (k + 1) X.A) (hg : Gl X x) (hdb : (x == ("__debug__" : Str)) = false := by decide) :
    PE X (.Call (.Name x p) [] [] pos) (tMake (cA X.K x) sp [] E0 tNil) := let ⟨f, fd, F, b, M, m⟩ := D.ex; pe_make0 M F hr hg m b .nil pass0 hdb
theorem pe_fldK {X : Cx} (K : PySem.W.Frag) (h : X.K = K) {e : Expr} {f : Str} {ta : TE} {pos : Pos} (he : PE X e ta) (hb : attributeBase e f X.env (eval e X.env) = eval e X.env) : PE X (.Attribute e f pos) (tFld K ta f) := h ▸ pe_fld he hb
theorem ps_fldK {X : Cx} (K : PySem.W.Frag) (h : X.K = K) {o value : Expr} {f : Str} {ta tv : TE} {pos pos' : Pos} (ha : PE X o ta) (hv : PE X value tv) (hs : swapsWith value (some (.Attribute o f pos')) pos.line X.env = pure false) : PS X (.Assign [.Attribute o f pos'] value pos) (sFld K ta tv f) := h ▸ ps_fld ha hv hs
section
variable [Tbs] {K : PySem.W.Frag} {M M1 G G0 H0 G1 H H1 G' H' : Hp} {v : V} {d : D} {σ : L2.St} {te tb : TE} {ds : List D} {as : TA} {Dn : Ends} {tz : TS} {C dx o : Addr} {fs : List (Str × V)} {f : Str} {j : Nat}
/-- self.f = data, self an own instance in slot j -/
theorem q_fldD (e : Ex G H) (hg : G o = none) (ho : H o = some (.ins C dx fs)) (hj : σ[j]? = some (some (.ref o))) (h : EvD K te σ G d) (c : Cls K C) (n : NoAttr K C f) (hl : fs.length < 1000) (k : ∀ v G1 H1, Step G H G1 H1 → G1 o = none → Rp K G1 v d → tz Dn σ (upd H1 o (.ins C dx (putF f v fs)))) : tSeq (sFld K (tVar j) te f) tz Dn σ H :=
  h H e _ fun v G1 H1 s r => ⟨_, hj, o, C, dx, fs, rfl, s.h.k o _ ho rfl, c, n, hl, k v G1 H1 s (s.n o _ hg ho rfl) r⟩
/-! ### comprehensions whose items are new lists that may change yet -/
/-- own lists, new since H0, that hold these items -/
structure OwnLs (G H0 H : Hp) (ls : List Addr) (rows : List (List V)) : Prop where
  nd : ls.Nodup
  len : ls.length = rows.length
  at_ : ∀ (i : Nat) (l : Addr), ls[i]? = some l → H0 l = none ∧ G l = none ∧ ∃ row, rows[i]? = some row ∧ H l = some (.lst row)
theorem OwnLs.nil : OwnLs G H0 H [] [] := ⟨.nil, rfl, fun i l h => by simp at h⟩
theorem OwnLs.mem {ls : List Addr} {rows : List (List V)} (o : OwnLs G H0 H ls rows) {l : Addr} (h : l ∈ ls) : H0 l = none ∧ G l = none ∧ ∃ row, H l = some (.lst row) := by
  obtain ⟨i, hi⟩ := List.getElem?_of_mem h
  obtain ⟨h1, h2, row, _, h3⟩ := o.at_ i l hi
  exact ⟨h1, h2, row, h3⟩
theorem OwnLs.step {ls : List Addr} {rows : List (List V)} (o : OwnLs G H0 H ls rows) (s : Step G H G1 H1) : OwnLs G1 H0 H1 ls rows := ⟨o.nd, o.len, fun i l h => by
  obtain ⟨h1, h2, row, h3, h4⟩ := o.at_ i l h
  obtain ⟨k1, k2⟩ := s.keep h2 h4
  exact ⟨h1, k1, row, h3, k2⟩⟩
theorem OwnLs.pre {ls : List Addr} {rows : List (List V)} {H00 : Hp} (o : OwnLs G H0 H ls rows) (f : ∀ l, H0 l = none → H00 l = none) : OwnLs G H00 H ls rows := ⟨o.nd, o.len, fun i l h => by
  obtain ⟨h1, h2⟩ := o.at_ i l h
  exact ⟨f l h1, h2⟩⟩
/-- another object changes -/
theorem OwnLs.other {ls : List Addr} {rows : List (List V)} (o : OwnLs G H0 H ls rows) {p : Addr} {u : HO} (hp : p ∉ ls) : OwnLs G H0 (upd H p u) ls rows := ⟨o.nd, o.len, fun i l h => by
  obtain ⟨h1, h2, row, h3, h4⟩ := o.at_ i l h
  exact ⟨h1, h2, row, h3, by rw [upd_ne (fun z => hp (by rw [← z]; exact List.mem_of_getElem? h))]; exact h4⟩⟩
theorem OwnLs.snoc {ls : List Addr} {rows : List (List V)} {l : Addr} {row : List V} (o : OwnLs G H0 H ls rows) (hl : l ∉ ls) (h0 : H0 l = none) (h1 : G l = none) (h2 : H l = some (.lst row)) : OwnLs G H0 H (ls ++ [l]) (rows ++ [row]) := by
  refine ⟨List.nodup_append.mpr ⟨o.nd, List.nodup_cons.mpr ⟨List.not_mem_nil, .nil⟩, fun a ha b hb z => hl (by rw [List.mem_singleton.mp hb] at z; rw [← z]; exact ha)⟩, by rw [List.length_append, List.length_append, o.len]; rfl, fun i x h => ?_⟩
  by_cases hi : i < ls.length
  · rw [List.getElem?_append_left hi] at h
    obtain ⟨k1, k2, r, k3, k4⟩ := o.at_ i x h
    exact ⟨k1, k2, r, by rw [List.getElem?_append_left (by rw [← o.len]; exact hi)]; exact k3, k4⟩
  · rw [List.getElem?_append_right (by omega)] at h
    have hz : i - ls.length = 0 := by
      cases q : i - ls.length with
      | zero => rfl
      | succ j => rw [q] at h; simp at h
    rw [hz] at h
    have e : l = x := Option.some.inj h
    subst e
    refine ⟨h0, h1, row, ?_, h2⟩
    rw [List.getElem?_append_right (by rw [← o.len]; omega), ← o.len, hz]
    rfl
theorem RpA.of_flat : ∀ {ds : List D}, ds.all D.flat = true → RpA K G (ds.map D.toV) ds
  | [], _ => .nil
  | d :: ds, h => by
    rw [List.all_cons, Bool.and_eq_true] at h
    refine .cons ?_ (RpA.of_flat h.2)
    cases d <;> first | exact .non | exact .bl _ | exact .int _ | exact .str _ | cases h.1
/-- frozen: the lists become data -/
theorem OwnLs.freeze : ∀ {ls : List Addr} {rows : List (List V)} {rs : List (List D)} {G1 H1 : Hp}, Step G H G1 H1 → OwnLs G1 H H1 ls rows → rows = rs.map (·.map D.toV) → (∀ r ∈ rs, r.all D.flat = true) → ∃ G2, Step G H G2 H1 ∧ Ex G1 G2 ∧ (∀ b, b ∉ ls → G1 b = none → G2 b = none) ∧ RpA K G2 (ls.map V.ref) (rs.map D.lst)
  | [], rows, rs, G1, H1, s, o, e, hf => by
    have h := o.len
    rw [e] at h
    cases rs with
    | nil => exact ⟨G1, s, Ex.refl _, fun _ _ h => h, .nil⟩
    | cons _ _ => cases h
  | l :: ls, rows, rs, G1, H1, s, o, e, hf => by
    have h := o.len
    rw [e] at h
    cases rs with
    | nil => cases h
    | cons r rs =>
      obtain ⟨h0, h1, row, h2, h3⟩ := o.at_ 0 l rfl
      rw [e] at h2
      have h2 : r.map D.toV = row := Option.some.inj h2
      obtain ⟨n1, n2⟩ := List.nodup_cons.mp o.nd
      have s2 := s.freeze h0 h1 h3
      have o2 : OwnLs (upd G1 l (.lst row)) H H1 ls (rs.map (·.map D.toV)) := ⟨n2, by rw [List.length_map]; simpa using h, fun i x hx => by
        obtain ⟨k1, k2, r0, k3, k4⟩ := o.at_ (i + 1) x hx
        rw [e] at k3
        exact ⟨k1, by rw [upd_ne (fun z => n1 (by rw [← z]; exact List.mem_of_getElem? hx))]; exact k2, r0, k3, k4⟩⟩
      obtain ⟨G2, s3, e3, f3, r3⟩ := OwnLs.freeze s2 o2 rfl fun r hr => hf r (List.mem_cons_of_mem _ hr)
      refine ⟨G2, s3, (Ex.new h1).trans e3, fun b hb hn => ?_, .cons (.lst (e3 _ _ upd_same) ?_) r3⟩
      · refine f3 b (fun z => hb (List.mem_cons_of_mem _ z)) ?_
        rw [upd_ne (fun z => hb (by rw [z]; exact List.mem_cons_self))]
        exact hn
      · subst h2
        exact RpA.of_flat (hf r List.mem_cons_self)
variable {wi : TI} {g : TG} {n : Nat} {Y : Nat → D} {js : List Nat}
theorem f_lcN {vs : List Nat} (E : Nat → List D) (row : Nat → List D) (hi : EvI K wi σ G n Y) (hg : ∀ i, i < n → EvG K g (Y i) js (E i)) (hz : n ≤ 1000000)
    (hl : ∀ i, i < n → (E i).length = js.length) (hf : ∀ i, (row i).all D.flat = true)
    (hw : ∀ us : List V, us.length = js.length → wipe (setAll (wipe σ vs) js us) vs = wipe σ vs)
    (he : ∀ i, i < n → ∀ G1, Ex G G1 → ∀ us, RpA K G1 us (E i) → EvF K te (setAll (wipe σ vs) js us) G1 (row i)) (e : Ex G H) (Q : VK)
    (q : ∀ p ls G' H', Step G H G' H' → H p = none → G' p = none → H' p = some (.lst (ls.map V.ref)) → p ∉ ls → OwnLs G' H H' ls ((List.range n).map fun i => (row i).map D.toV) → Q (.ref p) H') : tLc wi g tYes te vs σ H Q :=
  hi H e _ fun J G1 H1 s1 wk Dl hD => by
    refine ⟨fun i m H' => m = n - i ∧ i ≤ n ∧ ∃ G' ls, Step G1 H1 G' H' ∧ G' Dl = none ∧ H' Dl = some (.lst (ls.map V.ref)) ∧ Dl ∉ ls ∧ OwnLs G' H1 H' ls ((List.range i).map fun i => (row i).map D.toV), ⟨n, by omega, Nat.zero_le _, G1, [], Step.own s1.i hD, Step.back s1.i hD, upd_same, List.not_mem_nil, OwnLs.nil⟩, ?_⟩
    rintro i m H' ⟨rfl, hi', G', ls, s2, hD1, hD2, hDl, o2⟩
    by_cases hlt : i < n
    · refine .inr ⟨wk.goes i H' hlt (s2.g.trans s2.i), fun H2 => i + 1 ≤ n ∧ ∃ G' ls, Step G1 H1 G' H2 ∧ G' Dl = none ∧ H2 Dl = some (.lst (ls.map V.ref)) ∧ Dl ∉ ls ∧ OwnLs G' H1 H2 ls ((List.range (i + 1)).map fun i => (row i).map D.toV), fun H2 p => ⟨n - (i + 1), by omega, rfl, p⟩, fun x H2 y => ?_⟩
      obtain ⟨G2, s3, r3⟩ := wk.yields i G' H' x H2 hlt s2.g s2.i y
      refine hg i hlt G2 H2 x _ _ s3.i r3 fun us ru => ⟨hw us (by rw [ru.len]; exact hl i hlt), ?_⟩
      obtain ⟨g3, k3⟩ := s3.keep hD1 hD2
      have s23 := s2.trans s3
      have o3 := o2.step s3
      show te (setAll (wipe σ vs) js us) H2 _
      refine (he i hlt G2 (s1.g.trans s23.g) us ru) H2 s3.i _ fun p xs G4 H4 s5 q1 q2 q3 r5 => ?_
      obtain ⟨g5, k5⟩ := s5.keep g3 k3
      have o5 := o3.step s5
      obtain ⟨hx, _⟩ := r5.flat (hf i)
      subst hx
      have npl : p ∉ ls := fun z => by
        obtain ⟨_, _, r, h⟩ := o3.mem z
        rw [q1] at h
        cases h
      have npD : p ≠ Dl := fun z => by rw [z, k3] at q1; cases q1
      refine ⟨ls.map V.ref, k5, ?_, hlt, G4, ls ++ [p], (s23.trans s5).mut hD g5, g5, ?_, ?_, ?_⟩
      · rw [List.length_map, o5.len, List.length_map, List.length_range, sizeLine_eq]
        omega
      · rw [upd_same, List.map_append]; rfl
      · intro z
        rcases List.mem_append.mp z with z | z
        · exact hDl z
        · exact npD (List.mem_singleton.mp z).symm
      · rw [List.range_succ, List.map_append]
        refine OwnLs.other (o5.snoc npl (s23.pre q1) q2 q3) fun z => ?_
        · rcases List.mem_append.mp z with z | z
          · exact hDl z
          · exact npD (List.mem_singleton.mp z).symm
    · have z : i = n := by omega
      subst z
      exact .inl ⟨wk.stops H' (s2.g.trans s2.i), q Dl ls G' H' (s1.trans s2) (s1.pre hD) hD1 hD2 hDl (o2.pre fun l h => s1.pre h)⟩
/-- a new list of new lists of flat things -/
def spFF (K : PySem.W.Frag) (R : List D → List (List D) → Prop) : Sp := fun vs H Q _ => ∃ G ds r, Ex G H ∧ RpA K G vs ds ∧ R ds r ∧ ∀ p ls G' H', Step G H G' H' → H p = none → G' p = none → H' p = some (.lst (ls.map V.ref)) → p ∉ ls → OwnLs G' H H' ls (r.map fun l => l.map D.toV) → Q (.ref p) H'
theorem f_callFF {R : List D → List (List D) → Prop} {E : XK} {r : List (List D)} (h : EvAs K as σ G ds) (hr : R ds r) (hf : ∀ x ∈ r, x.all D.flat = true) : EvF K (tCall (spFF K R) [] E as) σ G (r.map D.lst) := fun H e Q q =>
  h H e _ fun vs G1 H1 s1 r1 => ⟨G1, ds, r, s1.i, by rw [List.append_nil]; exact r1, hr, fun p ls G2 H2 s2 h1 h2 h3 hp o => by
    obtain ⟨G3, s3, e3, f3, r3⟩ := OwnLs.freeze s2 o rfl hf
    exact q p _ G3 H2 (s1.trans s3) (s1.pre h1) (f3 p hp h2) h3 r3⟩
end
end J

/-! sum of a tuple, unary minus, own lists that change, fields with lists. -/
namespace J
open PySem PySem.Spec PyProof.Rows L2 Evl
def rSumT (K : PySem.W.Frag) : List V → Hp → VK → Prop := fun vs H Q => ∃ (a : Addr) (ns : List Int), vs = [V.ref a] ∧ SqT K H a (ns.map V.int) ∧ Q (.int ns.sum) H
theorem cr_sumT {X : Cx} (hc : X.calm = true) : CallR X (.builtin "sum") (rSumT X.K) := by
  intro pins s σ H vs us Q I r h
  obtain ⟨a, ns, rfl, hs, q⟩ := h
  obtain ⟨its, rv, ht, _⟩ := I.tuple hs
  rw [Vals.ref1 r]
  have hi := rv.ints
  obtain ⟨xs, hx⟩ := hi.allInts.items
  have hn : numsOf its.toArray.toList = ns := by rw [show its.toArray.toList = its from rfl, hi.numsOf]
  rw [hx] at ht hn
  rw [nums_intItems] at hn
  refine PySem.W.ktm_sumG (I.ok.hd hc) ht fun h' tk t' hk => ?_
  have e : preSum (numAt xs) xs.size = ns.sum := by rw [preSum_eq, List.take_of_length_le (by simp), hn]
  rw [e]
  exact ⟨.int _, H, I.kept hk, ⟨_, rfl⟩, q⟩
def rSumA (K : PySem.W.Frag) : List V → Hp → VK → Prop := fun xs H Q => rSum K xs H Q ∨ rSumT K xs H Q
theorem cr_sumA {X : Cx} (K : PySem.W.Frag) (h : X.K = K) (hc : X.calm = true) : CallR X (.builtin "sum") (rSumA K) := h ▸ (cr_sum hc).or (cr_sumT hc)
section
variable [Tbs] {K : PySem.W.Frag} {M M1 G G0 H0 G1 H H1 G' H' : Hp} {v : V} {d : D} {σ : L2.St} {te ta tb : TE} {ds : List D} {as : TA} {Dn : Ends} {tz : TS} {C dx o : Addr} {fs : List (Str × V)} {f : Str} {j : Nat}
theorem e_sumT {ns : List Int} (ha : EvD K ta σ G (.tup ds)) (h : ds = ns.map D.int) : EvD K (tCB (rSumA K) (tCons ta tNil)) σ G (.int ns.sum) :=
  e_cb (a_one ha) fun vs G1 H1 Q e1 e2 r k => by
    obtain ⟨v, rfl, rr⟩ := r.one
    obtain ⟨a, xs, rfl, hs, ha⟩ := rr.tup_of
    subst h
    have := ha.ints
    subst this
    exact .inr ⟨a, ns, rfl, .of (e2 _ _ hs), k _ G1 H1 (Step.refl e2) (.int _)⟩
theorem e_neg {i : Int} (ha : EvD K ta σ G (.int i)) : EvD K (tUn (rU fun i => .int (-i)) ta) σ G (.int (-i)) := fun H e Q q =>
  ha H e _ fun v G1 H1 s r => ⟨i, r.int_of, q _ G1 H1 s (.int _)⟩
theorem atI_last {ds : List D} {d : D} (h : ds.getLast? = some d) : atI ds (-1) = some d := by
  have hn : ds ≠ [] := fun z => by rw [z] at h; cases h
  have hl : 0 < ds.length := List.length_pos_iff.mpr hn
  rw [List.getLast?_eq_getElem?] at h
  unfold atI ixN
  rw [if_neg (by omega), if_pos (by omega), show ((-1 : Int) + (ds.length : Int)).toNat = ds.length - 1 by omega]
  exact h
/-- an expression whose value is the object at a -/
def EvO (te : TE) (σ : L2.St) (G : Hp) (a : Addr) : Prop := ∀ H, Ex G H → ∀ Q : VK, (∀ G' H', Step G H G' H' → Q (.ref a) H') → te σ H Q
theorem o_name {j : Nat} {o : Addr} (h : σ[j]? = some (some (.ref o))) : EvO (tVar j) σ G o := o_var h
theorem o_fld {w : Addr} (h : EvO te σ G o) (hi : G o = some (.ins C dx fs)) (c : Cls K C) (n : NoAttr K C f) (hl : fs.lookup f = some (.ref w)) : EvO (tFld K te f) σ G w := fun H e Q q =>
  h H e _ fun G1 H1 s => ⟨o, C, dx, fs, _, rfl, s.i.k _ _ (s.g.k _ _ hi rfl) rfl, c, n, hl, q G1 H1 s⟩
theorem EvO.mono (e : Ex G G1) (h : EvO te σ G o) : EvO te σ G1 o := fun H a Q q => h H (e.trans a) Q fun G' H' s => by
  obtain ⟨G2, s2, e2, n2⟩ := s.widen e a
  exact q G2 H' s2
theorem o_ix {i : Nat} {xs : List V} {a l : Addr} (h : EvO ta σ G a) (hx : G a = some (.lst xs)) (hb : EvD K tb σ G (.int i)) (hl : xs[i]? = some (.ref l)) : EvO (tOp (rIx K) ta tb) σ G l := fun H e Q q =>
  h H e _ fun G1 H1 s1 => (hb.mono s1.g) H1 s1.i _ fun v G2 H2 s2 r2 =>
    .inl ⟨a, xs, (i : Int), _, rfl, r2.int_of, .of (s2.i _ _ ((s1.g.trans s2.g) _ _ hx)), atI_nat hl, q G2 H2 (s1.trans s2)⟩
/-- xs[j] = flat data, xs an own list that may change -/
theorem q_setM {l : Addr} {xs : List V} (e : Ex G H) (ow : Owns M G H) (hm : M l = some (.lst xs)) (h : EvD K te σ (over G M) d) (hf : d.flat = true) (ho : EvO ta σ (over G M) l) (hi : EvD K tb σ (over G M) (.int j)) (hj : j < xs.length)
    (k : ∀ G1 H1, Step G (hideM M H) G1 H1 → Ex G G1 → Owns (upd M l (.lst (xs.set j d.toV))) G1 H1 → tz Dn σ H1) : tSeq (tAsg te (gSub ta tb rSetL)) tz Dn σ H :=
  h H (ow.ex e) _ fun v G1 H1 s1 r1 => (ho.mono s1.g) H1 s1.i _ fun G2 H2 s2 => (hi.mono (s1.g.trans s2.g)) H2 s2.i _ fun w G3 H3 s3 r3 => by
    obtain ⟨G4, s4, o4, _⟩ := ((s1.trans s2).trans s3).thawM ow
    have hv : v = d.toV := by
      cases d <;> first | (cases r1; rfl) | cases hf
    subst hv
    refine ⟨l, xs, (j : Int), j, rfl, r3.int_of, o4.h _ _ hm, Evl.ixN_nat hj, ?_⟩
    refine k G4 _ (((Step.startM e ow).trans s4).mut (hideM_some hm) (o4.g _ _ hm)) s4.g (o4.upd hm ⟨rfl, rfl⟩)
/-- self.f = a new list -/
theorem q_fldF (e : Ex G H) (hg : G o = none) (ho : H o = some (.ins C dx fs)) (hj : σ[j]? = some (some (.ref o))) (h : EvF K te σ G ds) (c : Cls K C) (n : NoAttr K C f) (hl : fs.length < 1000) (k : ∀ p xs G1 H1, Step G H G1 H1 → G1 o = none → H p = none → G1 p = none → H1 p = some (.lst xs) → p ≠ o → RpA K G1 xs ds → tz Dn σ (upd H1 o (.ins C dx (putF f (.ref p) fs)))) : tSeq (sFld K (tVar j) te f) tz Dn σ H :=
  h H e _ fun p xs G1 H1 s h1 h2 h3 r => ⟨_, hj, o, C, dx, fs, rfl, s.h.k o _ ho rfl, c, n, hl, k p xs G1 H1 s (s.n o _ hg ho rfl) h1 h2 h3 (fun z => by rw [z, ho] at h1; cases h1) r⟩
/-- self.f = a new list of new lists -/
theorem s_fldFF {R : List D → List (List D) → Prop} {E : XK} {r : List (List D)} (e : Ex G H) (hg : G o = none) (ho : H o = some (.ins C dx fs)) (hj : σ[j]? = some (some (.ref o))) (h : EvAs K as σ G ds) (hr : R ds r) (c : Cls K C) (n : NoAttr K C f) (hl : fs.length < 1000)
    (k : ∀ p ls G1 H1, Step G H G1 H1 → G1 o = none → H p = none → G1 p = none → H1 p = some (.lst (ls.map V.ref)) → p ∉ ls → p ≠ o → OwnLs G1 H H1 ls (r.map fun l => l.map D.toV) → Dn.nx σ (upd H1 o (.ins C dx (putF f (.ref p) fs)))) : sFld K (tVar j) (tCall (spFF K R) [] E as) f Dn σ H :=
  h H e _ fun vs G1 H1 s1 r1 => ⟨G1, ds, r, s1.i, by rw [List.append_nil]; exact r1, hr, fun p ls G2 H2 s2 h1 h2 h3 hp ow => by
    have s := s1.trans s2
    have np : p ≠ o := fun z => by rw [z, s1.h.k o _ ho rfl] at h1; cases h1
    exact ⟨_, hj, o, C, dx, fs, rfl, s.h.k o _ ho rfl, c, n, hl, k p ls G2 H2 s (s.n o _ hg ho rfl) (s1.pre h1) h2 h3 hp np (ow.pre fun l hl => s1.pre hl)⟩⟩
/-- x = a new list, read from own objects -/
theorem q_asgLM {i : Nat} (e : Ex G H) (ow : Owns M G H) (h : EvF K te σ (over G M) ds) (hd : D.tupOA ds = true) (k : ∀ v G1 H1, Step G H G1 H1 → Owns M G1 H1 → Rp K G1 v (.lst ds) → tz Dn (σ.set i (some v)) H1) : tSeq (tAsg te (gName i)) tz Dn σ H :=
  q_asgFM e ow h hd fun p xs G1 H1 s o1 h1 h2 h3 r => k _ _ H1 (s.freeze h1 h2 h3) ⟨fun b u hb => by
    have z : b ≠ p := fun z => by rw [z] at hb; rw [ow.h p u hb] at h1; cases h1
    rw [upd_ne z]
    exact o1.g b u hb, o1.h, o1.t⟩ (.lst upd_same (r.ex (Ex.new h2)))
theorem s_asgLM {i : Nat} (e : Ex G H) (ow : Owns M G H) (h : EvF K te σ (over G M) ds) (hd : D.tupOA ds = true) (k : ∀ v G1 H1, Step G H G1 H1 → Owns M G1 H1 → Rp K G1 v (.lst ds) → Dn.nx (σ.set i (some v)) H1) : tAsg te (gName i) Dn σ H := q_asgLM (tz := fun D σ H => D.nx σ H) (Dn := Dn) e ow h hd k
theorem g_four {j1 j2 j3 j4 : Nat} {d1 d2 d3 d4 : D} : EvG K (gTup K 4 (gCons (gName j1) (gCons (gName j2) (gCons (gName j3) (gCons (gName j4) gNil))))) (.tup [d1, d2, d3, d4]) [j1, j2, j3, j4] [d1, d2, d3, d4] := g_tup (g_cons g_name (g_cons g_name (g_cons g_name (g_cons g_name g_nil rfl) rfl) rfl) rfl) rfl
/-! ### own lists of times -/
abbrev usV (us : List Nat) : List V := us.map fun n : Nat => V.int n
structure Uls (M : Hp) (ls : List Addr) (uss : List (List Nat)) : Prop where
  nd : ls.Nodup
  len : ls.length = uss.length
  at_ : ∀ (i : Nat) (l : Addr) (us : List Nat), ls[i]? = some l → uss[i]? = some us → M l = some (.lst (usV us))
theorem nat_unt (us : List Nat) : RpA K G (usV us) (us.map fun n : Nat => D.int n) := by
  induction us with
  | nil => exact .nil
  | cons n us ih => exact .cons (.int _) ih
theorem Uls.mem {ls : List Addr} {uss : List (List Nat)} (u : Uls M ls uss) {l : Addr} (h : l ∈ ls) : ∃ us, M l = some (.lst (usV us)) := by
  obtain ⟨i, hi⟩ := List.getElem?_of_mem h
  have hl : i < uss.length := by
    rw [← u.len]
    exact (List.getElem?_eq_some_iff.mp hi).1
  exact ⟨_, u.at_ i l _ hi (List.getElem?_eq_getElem hl)⟩
theorem Uls.rp {ls : List Addr} {uss : List (List Nat)} (u : Uls M ls uss) : RpA K (over G M) (ls.map V.ref) (uss.map fun us : List Nat => D.lst (us.map fun n : Nat => D.int n)) := by
  have h1 := u.len
  have h2 := u.at_
  clear u
  induction ls generalizing uss with
  | nil =>
    cases uss with
    | nil => exact .nil
    | cons _ _ => cases h1
  | cons l ls ih =>
    cases uss with
    | nil => cases h1
    | cons us uss => exact .cons (.lst (over_some (h2 0 l us rfl rfl)) (nat_unt us)) (ih (by simpa using h1) fun i l us e1 e2 => h2 (i + 1) l us e1 e2)
theorem Uls.other {ls : List Addr} {uss : List (List Nat)} (u : Uls M ls uss) {l : Addr} {w : HO} (h : l ∉ ls) : Uls (upd M l w) ls uss := ⟨u.nd, u.len, fun i x us h1 h2 => by
  rw [upd_ne (fun z => h (by rw [← z]; exact List.mem_of_getElem? h1))]
  exact u.at_ i x us h1 h2⟩
theorem Uls.set {ls : List Addr} {uss : List (List Nat)} (u : Uls M ls uss) {t : Nat} {l : Addr} {us' : List Nat} (h : ls[t]? = some l) : Uls (upd M l (.lst (usV us'))) ls (uss.set t us') := by
  have ht := (List.getElem?_eq_some_iff.mp h).1
  refine ⟨u.nd, by rw [List.length_set]; exact u.len, fun i x us h1 h2 => ?_⟩
  by_cases z : i = t
  · subst z
    rw [h] at h1
    cases h1
    rw [List.getElem?_set_self (by rw [← u.len]; exact ht)] at h2
    cases h2
    exact upd_same
  · rw [List.getElem?_set_ne (Ne.symm z)] at h2
    have ne : x ≠ l := fun y => by
      subst y
      exact z ((List.getElem?_inj (List.getElem?_eq_some_iff.mp h1).1 u.nd).mp (by rw [h1, h]))
    rw [upd_ne ne]
    exact u.at_ i x us h1 h2
end
end J

/-! one own object as a set; loops over drawn slices. -/
namespace J
open PySem PySem.Spec PyProof.Rows L2 Evl
def own1 (p : Addr) (o : HO) : Hp := fun b => if b = p then some o else none
theorem own1_same {p : Addr} {o : HO} : own1 p o p = some o := if_pos rfl
theorem own1_of {p b : Addr} {o u : HO} (h : own1 p o b = some u) : b = p ∧ u = o := by
  unfold own1 at h
  split at h
  · rename_i z
    exact ⟨z, (Option.some.inj h).symm⟩
  · cases h
theorem own1_ne {p b : Addr} {o : HO} (h : b ≠ p) : own1 p o b = none := if_neg h
section
variable [Tbs] {K : PySem.W.Frag} {G G0 H0 G1 H H1 : Hp} {σ : L2.St} {te th : TE} {ds : List D} {Dn : Ends} {tu tz : TS} {g : TG} {p : Addr} {Rs : List D → Prop}
theorem Owns.one {q : Addr} {o : HO} (h1 : G q = none) (h2 : H q = some o) (h3 : isTup o = false ∧ isCode o = false) : Owns (own1 q o) G H := ⟨fun b u hb => by
  obtain ⟨z, _⟩ := own1_of hb; rw [z]; exact h1, fun b u hb => by
  obtain ⟨z, w⟩ := own1_of hb; rw [z, w]; exact h2, fun b u hb => by
  obtain ⟨_, w⟩ := own1_of hb; rw [w]; exact h3⟩
theorem cutD_take {ds : List D} {k : Nat} : cutD ds none (some (k : Int)) = ds.take k := by
  unfold cutD
  rw [HT.sIx_nat, HT.sIx_none, Nat.sub_zero, List.drop_zero]
  by_cases h : k ≤ ds.length
  · rw [Nat.min_eq_left h]
  · rw [Nat.min_eq_right (by omega), List.take_of_length_le (Nat.le_refl _), List.take_of_length_le (by omega)]
/-- xs[:n], n drawn -/
theorem rf_take {lo hi : Nat} (h : EvD K te σ G (.lst ds)) (hh : EvR K p th σ G (Btw lo hi)) : EvRF K p (tSl (rSlA K) te tNoPart (tPart th)) σ G (fun es => ∃ k : Nat, lo ≤ k ∧ es = ds.take k) := fun H e gp dc Q q =>
  h H e _ fun v G1 H1 s1 r1 => by
    have S1 := (Sd.refl e gp dc).then s1
    refine (hh.mono s1.g) H1 S1.ii S1.g S1.d _ fun w d G2 H2 s2 g2 d2 ⟨k, e2, h1, h2⟩ rp => ?_
    subst e2
    have S2 := S1.trans ⟨s2, g2, d2⟩
    obtain ⟨a, xs, rfl, hs, ha⟩ := (r1.ex (Sd.mk s2 g2 d2).gg).lst_of
    refine ⟨(k : Int), rp.int_of, .inl ⟨a, xs, rfl, .of (S2.ii _ _ hs), fun l hl => ?_⟩⟩
    have nl := S2.d.ne hl
    have z : cutV xs none (some (k : Int)) = xs.take k ∨ True := .inr trivial
    refine q l _ (ds.take k) G2 _ (S2.own hl) (S2.pre hl nl) (Step.back S2.ii hl) upd_same ⟨k, h1, rfl⟩ ?_
    have := ha.cut none (some (k : Int))
    rw [cutD_take] at this
    exact this
theorem i_list' {n : Nat} (hn : ds.length = n) (h : EvD K te σ G (.lst ds)) : EvI K (iList K te) σ G n (nth ds) := hn ▸ i_list h
/-- a loop over a drawn list -/
theorem s_seqR (S : Sd p G0 H0 G H) (h : EvRF K p te σ G Rs) (k : ∀ v ds G1 H1, Sd p G H G1 H1 → Sd p G0 H0 G1 H1 → Rs ds → Rp K G1 v (.lst ds) → tFor (iList K (tC v)) g tu Dn σ H1) : tFor (iSeq K te) g tu Dn σ H :=
  .inl (h H S.ii S.g S.d _ fun q xs ds G1 H1 s h1 h2 h3 h4 r => by
    have n := S.d.ne h1
    have s' := s.freeze n h1 h2 h3
    exact k _ ds _ H1 s' (S.trans s') h4 (.lst upd_same (r.ex (Ex.new h2))))
theorem q_seqR (S : Sd p G0 H0 G H) (h : EvRF K p te σ G Rs) (k : ∀ v ds G1 H1, Sd p G H G1 H1 → Sd p G0 H0 G1 H1 → Rs ds → Rp K G1 v (.lst ds) → tSeq (tFor (iList K (tC v)) g tu) tz Dn σ H1) : tSeq (tFor (iSeq K te) g tu) tz Dn σ H := s_seqR (Dn := { Dn with nx := tz Dn }) S h k
end
end J

/-! x in a list of data; own dicts of int/text keys; comprehensions over a dict's keys; loops over lists read from own objects. -/
namespace J
open PySem PySem.Spec PyProof.Rows L2 Evl
theorem hu65 {A : Around} {k : Nat} (hr : Room k A) : A.units + 65 < cLine := by have := hr.un; omega
theorem op_inDK {X : Cx} (K : PySem.W.Frag) (h : X.K = K) (hu : X.A.units + 65 < cLine) : OpR X (compareOp .In) (rInD K) := h ▸ op_inD hu
theorem op_ninDK {X : Cx} (K : PySem.W.Frag) (h : X.K = K) (hu : X.A.units + 65 < cLine) : OpR X (compareOp .NotIn) (rNotInD K) := h ▸ op_notInD hu
section
variable [Tbs] {K : PySem.W.Frag} {M G G0 H0 G1 H H1 G' H' : Hp} {σ : L2.St} {te ta tb tk : TE} {ds es : List D} {d d1 : D} {Dn : Ends} {tu tz : TS} {g : TG} {p : Addr} {i : Nat}
theorem e_inD (ha : EvD K ta σ G d1) (hb : EvD K tb σ G (.lst ds)) (h1 : d1.ok = true) (h2 : (D.lst ds).ok = true) : EvD K (tOp (rInD K) ta tb) σ G (.bl ((D.pyA ds).any fun z => PyData.eqv z d1.py)) :=
  e_op ha hb fun x y G1 H1 Q e1 e2 r1 r2 k => by
    unfold D.ok at h1 h2
    rw [Bool.and_eq_true] at h1 h2
    exact ⟨d1.py, D.pyA ds, (r1.ex e2).dp h1.1, (r2.ex e2).dp h2.1, h1.2, h2.2, k _ G1 H1 (Step.refl e2) (.bl _)⟩
theorem e_ninD (ha : EvD K ta σ G d1) (hb : EvD K tb σ G (.lst ds)) (h1 : d1.ok = true) (h2 : (D.lst ds).ok = true) : EvD K (tOp (rNotInD K) ta tb) σ G (.bl (!(D.pyA ds).any fun z => PyData.eqv z d1.py)) :=
  e_op ha hb fun x y G1 H1 Q e1 e2 r1 r2 k => by
    unfold D.ok at h1 h2
    rw [Bool.and_eq_true] at h1 h2
    exact ⟨d1.py, D.pyA ds, (r1.ex e2).dp h1.1, (r2.ex e2).dp h2.1, h1.2, h2.2, k _ G1 H1 (Step.refl e2) (.bl _)⟩
/-! ### new dicts -/
def EvFK (te : TE) (σ : L2.St) (G : Hp) (kvs : List (Key × V)) : Prop := ∀ H, Ex G H → ∀ Q : VK, (∀ p G' H', Step G H G' H' → H p = none → G' p = none → H' p = some (.dK kvs) → Q (.ref p) H') → te σ H Q
theorem fk_dictP {kvs : List (Key × V)} (ha : EvD K ta σ G (.lst ds)) (hd : ds = kvs.map fun kv => D.tup [kD kv.1, vD kv.2]) (hs : ∀ kv ∈ kvs, scalV kv.2 = true) : EvFK (tCB (rDictP K) (tCons ta tNil)) σ G (mergeK [] kvs) := fun H e Q q =>
  a_one ha H e _ fun vs G1 H1 s1 r => by
    subst hd
    obtain ⟨v, rfl, rr⟩ := r.one
    obtain ⟨a, xs, rfl, h1, h2⟩ := rr.lst_of
    obtain ⟨ps, rfl, pr⟩ := (h2.ex s1.i).pairsK hs
    exact ⟨a, ps, kvs, rfl, .of (s1.i _ _ h1), pr, fun p hp => q p G1 _ (s1.trans (Step.own s1.i hp)) (s1.pre hp) (Step.back s1.i hp) upd_same⟩
/-- x = a new dict, read from own objects -/
theorem q_asgKM {kvs : List (Key × V)} (e : Ex G H) (ow : Owns M G H) (h : EvFK te σ (over G M) kvs) (k : ∀ p G1 H1, Step G H G1 H1 → Owns M G1 H1 → H p = none → G1 p = none → H1 p = some (.dK kvs) → tz Dn (σ.set i (some (.ref p))) H1) : tSeq (tAsg te (gName i)) tz Dn σ H :=
  h H (ow.ex e) _ fun p G1 H1 s h1 h2 h3 => by
    obtain ⟨G2, s2, o2, _, fr, _⟩ := s.thawM ow
    exact k p G2 H1 s2 o2 h1 (fr p h2) h3
/-! ### loops over lists read from own objects -/
theorem s_seqM (e : Ex G H) (ow : Owns M G H) (h : EvF K te σ (over G M) ds) (hd : D.tupOA ds = true) (k : ∀ v G1 H1, Step G H G1 H1 → Owns M G1 H1 → Rp K G1 v (.lst ds) → tFor (iList K (tC v)) g tu Dn σ H1) : tFor (iSeq K te) g tu Dn σ H :=
  .inl (h.own hd e ow _ fun q xs G1 H1 s o1 h1 h2 h3 r => k _ _ H1 (s.freeze h1 h2 h3) ⟨fun b u hb => by
    have z : b ≠ q := fun z => by rw [z] at hb; rw [ow.h q u hb] at h1; cases h1
    rw [upd_ne z]
    exact o1.g b u hb, o1.h, o1.t⟩ (.lst upd_same (r.ex (Ex.new h2))))
theorem q_seqM (e : Ex G H) (ow : Owns M G H) (h : EvF K te σ (over G M) ds) (hd : D.tupOA ds = true) (k : ∀ v G1 H1, Step G H G1 H1 → Owns M G1 H1 → Rp K G1 v (.lst ds) → tSeq (tFor (iList K (tC v)) g tu) tz Dn σ H1) : tSeq (tFor (iSeq K te) g tu) tz Dn σ H := s_seqM (Dn := { Dn with nx := tz Dn }) e ow h hd k
/-! ### a dict that is locked -/
theorem walkD_keys {d : Addr} {o : Obj} {kvs : List (Key × V)} (h : G d = some (.frz o (.dK kvs))) : WalkD K (Itk d o kvs) kvs.length G (nth (kvs.map fun kv => kD kv.1)) where
  goes := fun i H hi e => ⟨e _ _ h, hi⟩
  stops := fun H e => ⟨e _ _ h, Nat.le_refl _⟩
  yields := fun i G1 H x H' hi e1 e2 y => by
    obtain ⟨rfl, k, v, hk, rfl⟩ := y
    refine ⟨G1, Step.refl e2, ?_⟩
    rw [nth_map hk]
    cases k <;> first | exact .int _ | exact .str _
theorem i_keysZ {j : Nat} {d : Addr} {o : Obj} {kvs : List (Key × V)} (hj : σ[j]? = some (some (.ref d))) (h : G d = some (.frz o (.dK kvs))) : EvI K (iKeys (tVar j)) σ G kvs.length (nth (kvs.map fun kv => kD kv.1)) := fun H e R q =>
  ⟨_, hj, d, o, rfl, .inl ⟨kvs, e _ _ h, q _ G H (Step.refl e) (walkD_keys h)⟩⟩
theorem e_dgetZ {j : Nat} {dd : Addr} {o : Obj} {kvs : List (Key × V)} {k : Key} {v : V} (hj : σ[j]? = some (some (.ref dd))) (h : G dd = some (.frz o (.dK kvs))) (hb : EvD K tb σ G (kD k)) (hv : valV kvs k = some v) (hs : scalV v = true) : EvD K (tDGet (tVar j) tb) σ G (vD v) := fun H e Q q =>
  ⟨_, hj, hb H e _ fun y G1 H1 s r => by
    have hy : y = kV k := by cases k <;> (cases r; rfl)
    subst hy
    refine ⟨dd, v, rfl, .inl ⟨kvs, k, .inr ⟨o, s.i _ _ (s.g _ _ h)⟩, rfl, hv.symm⟩, q v G1 H1 s ?_⟩
    cases v <;> first | exact .non | exact .bl _ | exact .int _ | exact .str _ | cases hs⟩
theorem e_dgetK {kvs : List (Key × V)} {k : Key} {v : V} (ha : EvD K ta σ G (.dic kvs)) (hb : EvD K tb σ G (kD k)) (hv : valV kvs k = some v) (hs : scalV v = true) : EvD K (tDGet ta tb) σ G (vD v) := fun H e Q q =>
  ha H e _ fun x G1 H1 s1 r1 => (hb.mono s1.g) H1 s1.i _ fun y G2 H2 s r => by
    obtain ⟨a, rfl, ha⟩ := r1.dic_of
    have hy : y = kV k := by cases k <;> (cases r; rfl)
    subst hy
    refine ⟨a, v, rfl, .inl ⟨kvs, k, .inl (s.i _ _ (s.g _ _ ha)), rfl, hv.symm⟩, q v G2 H2 (s1.trans s) ?_⟩
    cases v <;> first | exact .non | exact .bl _ | exact .int _ | exact .str _ | cases hs
/-- what an own object is again at the end: nothing hidden -/
theorem Step.unhide {q : Addr} {u : HO} (e : Ex G H) (g0 : G q = none) (x0 : H q = some u) (nc : isCode u = false) (s : Step G (hideM (own1 q u) H) G1 H1) (g1 : G1 q = none) (x1 : H1 q = some u) : Step G H G1 H1 := by
  have hne : ∀ b, b ≠ q → hideM (own1 q u) H b = H b := fun b hb => hideM_none (own1_ne hb)
  refine ⟨s.g, s.i, ⟨fun b w hb t => ?_, fun b ps hb => ?_⟩, fun b w h1 h2 h3 => ?_, fun b w h1 h2 h3 => ?_⟩
  · by_cases z : b = q
    · subst z; rw [x0] at hb; cases hb; exact x1
    · exact s.h.k b w (by rw [hne b z]; exact hb) t
  · by_cases z : b = q
    · subst z; rw [x0] at hb; cases hb; cases nc
    · obtain ⟨ps', h1, gr⟩ := s.h.t b ps (by rw [hne b z]; exact hb)
      refine ⟨ps', h1, fun ht => ?_⟩
      obtain ⟨h2, h3⟩ := gr ht
      refine ⟨h2, fun pos cv hc => (h3 pos cv hc).elim .inl fun ⟨c, e1, e2⟩ => .inr ⟨c, e1, ?_⟩⟩
      exact e2
  · by_cases z : b = q
    · subst z; exact g1
    · exact s.n b w h1 (by rw [hne b z]; exact h2) h3
  · have z : b ≠ q := fun z => by rw [z, x0] at h1; cases h1
    exact s.c b w (by rw [hne b z]; exact h1) h2 h3
/-- an expression under a lock on an own dict -/
theorem f_lockK {dd : Addr} {kvs : List (Key × V)} (e : Ex G H) (hg : G dd = none) (hx : H dd = some (.dK kvs)) (h : ∀ o : Obj, EvF K te σ (upd G dd (.frz o (.dK kvs))) ds) (hd : D.tupOA ds = true) (Q : VK) (k : ∀ v G1 H1, Step G H G1 H1 → G1 dd = none → H1 dd = some (.dK kvs) → Rp K G1 v (.lst ds) → Q v H1) : tLockE te σ H Q :=
  ⟨dd, .dK kvs, hx, trivial, fun od => by
    have ow0 : Owns (own1 dd (.dK kvs)) G H := Owns.one hg hx ⟨rfl, rfl⟩
    have s0 : Step G (hideM (own1 dd (.dK kvs)) H) G (upd H dd (.frz od (.dK kvs))) := (Step.startM e ow0).mut (hideM_some own1_same) hg
    have ow1 : Owns (own1 dd (.frz od (.dK kvs))) G (upd H dd (.frz od (.dK kvs))) := Owns.one hg upd_same ⟨rfl, rfl⟩
    have eo : over G (own1 dd (.frz od (.dK kvs))) = upd G dd (.frz od (.dK kvs)) := by
      funext b
      by_cases z : b = dd
      · subst z; rw [over_some own1_same, upd_same]
      · rw [over_none (own1_ne z), upd_ne z]
    refine EvF.own (K := K) (M := own1 dd (.frz od (.dK kvs))) (G := G) (by rw [eo]; exact h od) hd s0.i ow1 _ fun p xs G1 H1 s1 o1 h1 h2 h3 r => ?_
    have hz := o1.h dd _ own1_same
    have gz := o1.g dd _ own1_same
    have npd : p ≠ dd := fun z => by rw [z, upd_same] at h1; cases h1
    refine ⟨hz, ?_⟩
    have s2 := (s0.trans s1).mut (o := .dK kvs) (hideM_some own1_same) gz
    have s3 := Step.unhide e hg hx rfl s2 gz upd_same
    have hp : H p = none := by rw [upd_ne npd] at h1; exact h1
    have s4 := s3.freeze hp h2 (by rw [upd_ne npd]; exact h3)
    exact k _ _ _ s4 (by rw [upd_ne (Ne.symm npd)]; exact gz) upd_same (.lst upd_same (r.ex (Ex.new h2)))⟩
end
end J

/-! d.update(o), both with keys that are pairs of small numbers. -/
namespace J
open PySem PySem.Spec PyProof.Rows L2 Evl
theorem KT.merge2 {H : Hp} : ∀ {more : List (List Key × V)} {ms : List (List Key × Addr × Value)} {kvs : List (List Key × V)} {xs : List (List Key × Addr × Value)}, KT H more ms → KT H kvs xs → KT H (mergeT kvs more) (storedAllH xs ms)
  | [], _, _, _, r, q => by cases r; exact q
  | kv :: more, _, kvs, xs, r, q => by
    cases r with
    | cons h t =>
      rename_i m ms
      obtain ⟨h1, h2, h3⟩ := h
      have z := KT.merge2 t (q.put kv.1 (by first | exact h2 | (rw [h1]; exact h2)) h3)
      show KT H (mergeT (putK kvs kv.1 kv.2) more) (storedAllH (storedH xs m.1 m.2.1 m.2.2) ms)
      rw [← h1]
      exact z
/-- d.update(o) -/
def tDUpdT (td ty : TE) : TE := fun σ H Q => td σ H fun x H1 => ∃ a, x = .ref a ∧ IsD H1 a ∧ ty σ H1 fun y H2 => ∃ (b : Addr) (kvs more : List (List Key × V)), y = .ref b ∧ H2 a = some (.dT kvs) ∧ H2 b = some (.dT more) ∧ a ≠ b ∧ Small (more.map (·.1)) ∧ kvs.length + more.length ≤ sizeLine ∧ (mergeT kvs more).length ≤ sizeLine ∧ Q .non (upd H2 a (.dT (mergeT kvs more)))
theorem pe_dupdT {X : Cx} {o e : Expr} {td ty : TE} {apos cpos : Pos} (hu : X.A.units + 64 < cLine) (ho : PE X o td) (he : PE X e ty) (m : M1 X o "update" apos e cpos) : PE X (.Call (.Attribute o "update" apos) [e] [] cpos) (tDUpdT td ty) := by
  refine ⟨fun pins s σ H Q I h => ?_⟩
  refine wpAny_Call_method m.base m.few m.line PySem.F.plainAttrs_dict PySem.F.slot_dict_update PySem.F.type_dict_update (thn (ho.run pins s σ H _ I h) fun u s1 ⟨x, H1, I1, rx, a, ex, d, q1⟩ => ?_)
  subst ex
  obtain rfl : u = Value.ref a := rx
  obtain ⟨t1, t2, _⟩ := isD_at I1 d
  refine ⟨t1, t2, ?_⟩
  rw [m.trees]
  refine Calls.callWith_builtin rfl (Calls.evalArgs_plain (Calls.spliced_cons (thn (he.run pins s1 σ H1 _ I1 q1) fun iv s2 ⟨y, H2, I2, ry, b, kvs, more, ey, ea, eb, nab, hs, hz, hz2, q2⟩ => Calls.spliced_nil ?_)))
  subst ey
  cases (show iv = Value.ref b from ry)
  obtain ⟨z0, hd, xs, rel, dd⟩ := dt_of I2.hok ea
  obtain ⟨z1, ho', ms, rel2, dd2⟩ := dt_of I2.hok eb
  have l1 : xs.length = kvs.length := (Paired.length rel).symm
  have l2 : ms.length = more.length := (Paired.length rel2).symm
  refine call_update_dictH (knd := tupleKind (mixKind X.prog X.w)) ?_ nab ho' dd dd2 (.inr ⟨fun x hx => ?_, ?_⟩) (by rw [l1, l2]; exact hz) fun h' dd' _ sb => ?_
  · show X.A.in1.units < cLine
    have z : X.A.in1.units = X.A.units + 1 := rfl
    rw [z]
    omega
  · obtain ⟨ys, hy⟩ := kt_tups rel2 x hx
    obtain ⟨its, rv, p, hz⟩ := I2.tuple (SqT.of hy)
    exact p.typeIs
  · have e := small_apart (P := X.prog) (w := X.w) hs
    rw [kt_keys rel2, List.map_map] at e
    exact e
  · obtain ⟨q, es, ep, hq, h2, h3, h4, _, h5⟩ := dd'
    refine ⟨.non, _, d_write (t' := s2.toks) (ob := .dT (mergeT kvs more)) I2 (by rw [ea]; exact True.intro) sb ⟨q, hq⟩ ⟨hz2, hd, _, (KT.merge2 rel2 rel).keeps fun c ys ec => ?_, q, es, ep, hq, h2, h3, h4, h5⟩, rfl, q2⟩
    rw [upd_ne (ne_of ec ea (fun z => nomatch z))]
    exact ec
section
variable [Tbs] {K : PySem.W.Frag} {G G0 H0 G1 H H1 : Hp} {σ : L2.St} {te tb : TE} {ds : List D} {Dn : Ends} {tz : TS} {g gg : TG} {p : Addr} {Rs : List D → Prop} {wi : TI} {n : Nat} {Y : Nat → D} {js : List Nat}
/-! ### comprehensions whose items are drawn -/
theorem f_lcE {vs : List Nat} (E : Nat → List D) (RR : Nat → D → Prop) (hi : EvI K wi σ G n Y) (hg : ∀ i, i < n → EvG K g (Y i) js (E i)) (hz : n ≤ 1000000)
    (hl : ∀ i, i < n → (E i).length = js.length)
    (hw : ∀ us : List V, us.length = js.length → wipe (setAll (wipe σ vs) js us) vs = wipe σ vs)
    (he : ∀ i, i < n → ∀ G1, Ex G G1 → ∀ us, RpA K G1 us (E i) → EvR K p te (setAll (wipe σ vs) js us) G1 (RR i)) : EvRF K p (tLc wi g tYes te vs) σ G (fun ds => ds.length = n ∧ ∀ i d, ds[i]? = some d → RR i d) := fun H e gp dc Q q =>
  hi H e _ fun J G1 H1 s1 wk Dl hD => by
    have S1 := (Sd.refl e gp dc).then s1
    have nD : Dl ≠ p := S1.d.ne hD
    have hDh : H Dl = none := S1.pre hD nD
    refine ⟨fun i m H' => m = n - i ∧ i ≤ n ∧ ∃ G' xs ds, Sd p G H G' H' ∧ Ex G1 G' ∧ G' Dl = none ∧ H' Dl = some (.lst xs) ∧ RpA K G' xs ds ∧ ds.length = i ∧ ∀ j d, ds[j]? = some d → RR j d, ⟨n, by omega, Nat.zero_le _, G1, [], [], S1.own hD, Ex.refl _, Step.back S1.s.i hD, upd_same, .nil, rfl, fun j d h => by simp at h⟩, ?_⟩
    rintro i m H' ⟨rfl, hi', G', xs, ds, S2, e2, hD1, hD2, r2, hdl, hR⟩
    by_cases hlt : i < n
    · refine .inr ⟨wk.goes i H' hlt (e2.trans S2.ii), fun H2 => i + 1 ≤ n ∧ ∃ G' xs ds, Sd p G H G' H2 ∧ Ex G1 G' ∧ G' Dl = none ∧ H2 Dl = some (.lst xs) ∧ RpA K G' xs ds ∧ ds.length = i + 1 ∧ ∀ j d, ds[j]? = some d → RR j d, fun H2 pp => ⟨n - (i + 1), by omega, rfl, pp⟩, fun x H2 y => ?_⟩
      obtain ⟨G2, s3, r3⟩ := wk.yields i G' H' x H2 hlt e2 S2.ii y
      refine hg i hlt G2 H2 x _ _ s3.i r3 fun us ru => ⟨hw us (by rw [ru.len]; exact hl i hlt), ?_⟩
      obtain ⟨g3, k3⟩ := s3.keep hD1 hD2
      have S3 := S2.then s3
      show te (setAll (wipe σ vs) js us) H2 _
      refine (he i hlt G2 S3.gg us ru) H2 S3.ii S3.g S3.d _ fun v d G4 H4 s5 g5' d5 rd r5 => ?_
      have S45 : Sd p G2 H2 G4 H4 := ⟨s5, g5', d5⟩
      obtain ⟨g5, k5⟩ := S45.keep nD g3 k3
      have S5 := S3.trans S45
      refine ⟨xs, k5, ?_, hlt, G4, xs ++ [v], ds ++ [d], S5.mut nD hDh g5, e2.trans (s3.g.trans S45.gg), g5, upd_same, (r2.ex (s3.g.trans S45.gg)).snoc r5, by rw [List.length_append, hdl]; rfl, fun j x hx => ?_⟩
      · rw [r2.len, hdl, sizeLine_eq]
        omega
      · by_cases z : j < ds.length
        · rw [List.getElem?_append_left z] at hx
          exact hR j x hx
        · rw [List.getElem?_append_right (by omega)] at hx
          have hj : j - ds.length = 0 := by
            cases q : j - ds.length with
            | zero => rfl
            | succ k => rw [q] at hx; simp at hx
          rw [hj] at hx
          have hx : d = x := Option.some.inj hx
          subst hx
          have : j = i := by omega
          rw [this]
          exact rd
    · have z : i = n := by omega
      subst z
      exact .inl ⟨wk.stops H' (e2.trans S2.ii), q Dl xs ds G' H' S2 hDh hD1 hD2 ⟨hdl, hR⟩ r2⟩
/-- x = f([.. for .. in xs]), xs drawn -/
theorem q_lcIn {r : List V → Hp → VK → Prop} {tt : TT} {el : TE} {vs : List Nat} (S : Sd p G0 H0 G H) (h : EvRF K p te σ G Rs) (k : ∀ v ds G1 H1, Sd p G H G1 H1 → Sd p G0 H0 G1 H1 → Rs ds → Rp K G1 v (.lst ds) → tSeq (tAsg (tCB r (tCons (tLc (iList K (tC v)) g tt el vs) tNil)) gg) tz Dn σ H1) : tSeq (tAsg (tCB r (tCons (tLc (iSeq K te) g tt el vs) tNil)) gg) tz Dn σ H :=
  .inl (h H S.ii S.g S.d _ fun q xs ds G1 H1 s h1 h2 h3 h4 r => by
    have n := S.d.ne h1
    have s' := s.freeze n h1 h2 h3
    exact k _ ds _ H1 s' (S.trans s') h4 (.lst upd_same (r.ex (Ex.new h2))))
/-! ### a dict that is data, locked for a while -/
theorem Ex.swap {A B : Hp} {d : Addr} {u w : HO} (e : Ex A B) (ha : A d = some u) (hc : isCode u = false) (hw : isCode w = false) : Ex (upd A d w) (upd B d w) := by
  have hb := e.k d u ha (isTbl_code hc)
  refine ⟨fun b o hbo t => ?_, fun b ps hbo => ?_⟩
  · by_cases z : b = d
    · subst z; rw [upd_same] at hbo ⊢; exact hbo
    · rw [upd_ne z] at hbo ⊢; exact e.k b o hbo t
  · have z : b ≠ d := fun z => by subst z; rw [upd_same] at hbo; cases hbo; cases hw
    rw [upd_ne z] at hbo ⊢
    obtain ⟨ps', h1, gr⟩ := e.t b ps hbo
    refine ⟨ps', h1, fun ht => ?_⟩
    obtain ⟨h2, h3⟩ := gr ht
    refine ⟨h2, fun pos cv hcv => (h3 pos cv hcv).elim .inl fun ⟨c, e1, e2⟩ => .inr ⟨c, e1, ?_⟩⟩
    rw [upd_ne (fun z => by rw [z, hb] at e2; cases e2; cases hc)]
    exact e2
theorem upd_back {A : Hp} {d : Addr} {u w : HO} (h : A d = some u) : upd (upd A d w) d u = A := by
  funext b
  by_cases z : b = d
  · subst z; rw [upd_same, h]
  · rw [upd_ne z, upd_ne z]
theorem hide_upd {A : Hp} {d : Addr} {w : HO} (n : d ≠ p) : hide p (upd A d w) = upd (hide p A) d w := by
  funext b
  by_cases z : b = p
  · subst z; rw [hide_p, upd_ne (Ne.symm n), hide_p]
  · rw [hide_ne z]
    by_cases y : b = d
    · subst y; rw [upd_same, upd_same]
    · rw [upd_ne y, upd_ne y, hide_ne z]
theorem Step.swap {d : Addr} {u w : HO} (ha : G d = some u) (hb : H d = some u) (hc : isCode u = false) (hw : isCode w = false) (s : Step (upd G d w) (upd H d w) G1 H1) : Step G H (upd G1 d u) (upd H1 d u) := by
  have g1 : G1 d = some w := s.g.k d w upd_same (isTbl_code hw)
  have eg := s.g.swap (w := u) upd_same hw hc
  have eh := s.h.swap (w := u) upd_same hw hc
  rw [upd_back ha] at eg
  rw [upd_back hb] at eh
  refine ⟨eg, s.i.swap g1 hw hc, eh, fun b o h1 h2 h3 => ?_, fun b o h1 h2 h3 => ?_⟩
  · have z : b ≠ d := fun z => by rw [z, ha] at h1; cases h1
    rw [upd_ne z]
    exact s.n b o (by rw [upd_ne z]; exact h1) (by rw [upd_ne z]; exact h2) h3
  · have z : b ≠ d := fun z => by rw [z, hb] at h1; cases h1
    rw [upd_ne z] at h2 ⊢
    exact s.c b o (by rw [upd_ne z]; exact h1) h2 h3
theorem walkD_keysT {d : Addr} {o : Obj} {kvs : List (List Key × V)} (h : G d = some (.frz o (.dT kvs))) : WalkD K (Itkt d o kvs) kvs.length G (nth (kvs.map fun kv => D.tup (kv.1.map kD))) where
  goes := fun i H hi e => ⟨e _ _ h, hi⟩
  stops := fun H e => ⟨e _ _ h, Nat.le_refl _⟩
  yields := fun i G1 H x H' hi e1 e2 y => by
    obtain ⟨rfl, k, v, q, hk, rfl, hq⟩ := y
    refine ⟨_, Step.tup e2 hq, ?_⟩
    rw [nth_map hk]
    refine .tup upd_same ?_
    have : ∀ ks : List Key, RpA K (upd G1 q (.tup (k.map kV))) (ks.map kV) (ks.map kD) := by
      intro ks
      induction ks with
      | nil => exact .nil
      | cons a ks ih => exact .cons (by cases a <;> first | exact .int _ | exact .str _) ih
    exact this k
theorem i_keysT {j : Nat} {d : Addr} {o : Obj} {kvs : List (List Key × V)} (hj : σ[j]? = some (some (.ref d))) (h : G d = some (.frz o (.dT kvs))) : EvI K (iKeys (tVar j)) σ G kvs.length (nth (kvs.map fun kv => D.tup (kv.1.map kD))) := fun H e R q =>
  ⟨_, hj, d, o, rfl, .inr ⟨kvs, e _ _ h, q _ G H (Step.refl e) (walkD_keysT h)⟩⟩
/-- a drawn list told while a dict that is data is locked -/
theorem rf_lockT {d : Addr} {kvs : List (List Key × V)} (hd : G d = some (.dT kvs)) (nd : d ≠ p) (h : ∀ o : Obj, EvRF K p te σ (upd G d (.frz o (.dT kvs))) Rs) (ht : ∀ ds, Rs ds → D.tupOA ds = true) : EvRF K p (tLockE te) σ G Rs := fun H e gp dc Q q =>
  ⟨d, .dT kvs, e _ _ hd, trivial, fun od => by
    have hx := e _ _ hd
    have e2 : Ex (upd G d (.frz od (.dT kvs))) (upd H d (.frz od (.dT kvs))) := e.swap hd rfl rfl
    refine h od _ e2 (by rw [upd_ne (Ne.symm nd)]; exact gp) (dc.mut nd) _ fun l xs ds G1 H1 s h1 h2 h3 h4 r => ?_
    have ss := s.s
    rw [hide_upd nd] at ss
    have g1 : G1 d = some (.frz od (.dT kvs)) := ss.g.k d _ upd_same rfl
    have x1 : H1 d = some (.frz od (.dT kvs)) := ss.i.k d _ g1 rfl
    have nl : l ≠ d := fun z => by rw [z, upd_same] at h1; cases h1
    have s2 := Step.swap hd (by rw [hide_ne nd]; exact hx) rfl rfl ss
    refine ⟨x1, q l xs ds _ _ ⟨s2, by rw [upd_ne (Ne.symm nd)]; exact s.g, s.d.mut nd⟩ (by rw [upd_ne nl] at h1; exact h1) (by rw [upd_ne nl]; exact h2) (by rw [upd_ne nl]; exact h3) h4 (r.off (fun b ys hb => ?_) (ht ds h4))⟩
    rw [upd_ne (fun z => by rw [z, g1] at hb; cases hb)]
    exact hb⟩
end
end J

/-! sorted(xs) of data that can be compared. -/
namespace J
open PySem PySem.Spec PyProof.Rows L2 Evl
def rSortedD (K : PySem.W.Frag) : List V → Hp → VK → Prop := fun vs H Q => ∃ (a : Addr) (bs : List (V × PyData)), vs = [V.ref a] ∧ SqL K H a (bs.map (·.1)) ∧ DpAll K H (bs.map (·.1)) (bs.map (·.2)) ∧ PySem.W.AllAlike (bs.map (·.2)) ∧ PySem.W.Sortable (bs.map (·.2)) ∧ bs.length ≤ 1000000 ∧ (∀ b ∈ bs, b.2.depth ≤ 20) ∧
  ∀ p, H p = none → Q (.ref p) (upd H p (.lst ((bs.mergeSort (PySem.W.dataLe false fun b : V × PyData => b.2)).map (·.1))))
theorem each_dp {K : PySem.W.Frag} {X : Cx} {pins : List (Addr × Obj)} {σ : L2.St} {H : Hp} {s : Shared} (I : Inv X pins σ H s) (hK : X.K = K) : ∀ {bs : List (V × PyData)} {its : List Value}, Vals (bs.map (·.1)) its → DpAll K H (bs.map (·.1)) (bs.map (·.2)) → PySem.W.EachIs (fun (v : Value) (b : V × PyData) => RelV b.1 v ∧ ∃ as, Reads s.heap v b.2 as) its bs
  | [], _, r, _ => by cases r; exact .nil
  | b :: bs, _, r, d => by
    cases r with
    | cons r1 r2 =>
      cases d with
      | cons d1 d2 =>
        refine .cons ⟨r1, ?_⟩ (each_dp I hK r2 d2)
        subst hK
        exact Dp.reads I _ _ _ d1 r1
theorem cr_sortedD {X : Cx} (hu : X.A.units + 64 < cLine) : CallR X (.builtin "sorted") (rSortedD X.K) := by
  intro pins s σ H vs us Q I r h
  obtain ⟨a, bs, rfl, hs, hd, hal, hk, hl, hdp, q⟩ := h
  obtain ⟨its, rv, pl, hz⟩ := I.list hs
  rw [Vals.ref1 r]
  have er := each_dp I rfl rv hd
  refine PySem.W.sorted_data (enc := fun b : V × PyData => b.2) (R := fun v b => RelV b.1 v) pl.isList (er.mono fun _ _ h => h.1) (er.mono fun _ _ h => h.2) hal hk (by rw [sizeLine_eq]; omega) (fun b hb => ?_) fun out hlen hout => ?_
  · have := hdp b hb
    omega
  · have ev : Vals ((bs.mergeSort (PySem.W.dataLe false fun b : V × PyData => b.2)).map (·.1)) out := by
      generalize bs.mergeSort (PySem.W.dataLe false fun b : V × PyData => b.2) = cs at hout
      clear hlen
      induction hout with
      | nil => exact .nil
      | cons h1 _ ih => exact .cons h1 ih
    obtain ⟨e, hget⟩ := sortedAll_at s.heap its (List.toArray out)
    have hz3 : ((bs.mergeSort (PySem.W.dataLe false fun b : V × PyData => b.2)).map (·.1)).length ≤ sizeLine := by
      rw [List.length_map, List.length_mergeSort, sizeLine_eq]
      omega
    exact ⟨.ref _, upd H (s.heap.objs.size + 1) (.lst ((bs.mergeSort (PySem.W.dataLe false fun b : V × PyData => b.2)).map (·.1))), I.laid (t' := s.toks) (fun b o hb => sortedAll_old hb) (Nat.le_succ _) ⟨hz3, out, e, ev, hget⟩, rfl, q _ (I.hok.fresh (Nat.le_succ _))⟩
theorem cr_sortedDK {X : Cx} (K : PySem.W.Frag) (h : X.K = K) (hu : X.A.units + 64 < cLine) : CallR X (.builtin "sorted") (rSortedD K) := h ▸ cr_sortedD hu
theorem mt_indexK {X : Cx} (K : PySem.W.Frag) (h : X.K = K) : MtR X "list.index" (rIndex K) := h ▸ mt_index
theorem pe_bmK {X : Cx} (K : PySem.W.Frag) (h : X.K = K) {T id : String} {name : Str} {r : V → List V → Hp → VK → Prop} {o e : Expr} {es : List Expr} {to : TE} {t : TA} {apos cpos : Pos} (pa : PlainAttrs T) (slot : Slot T name id) (hty : typeOf (.builtin id) = pure (.type "method_descriptor")) (hm : MtR X id r) (ho : PE X o to) (ha : PA X (e :: es) t)
    (hbase : attributeBase o name X.env (eval o X.env) = eval o X.env := by rfl)
    (hfew : ((backTo cpos (starEach (e :: es) X.env)).all (fun x => !x.1) && (backToKw cpos (keywordEach [] X.env)).all (fun x => x.1.isSome)
      && decide ((e :: es).length + ([] : List Keyword).length + (if ([] : List Keyword).isEmpty then 0 else 1) < 30)) = true := by rfl)
    (hline : (apos.endLine == cpos.line) = true := by rfl) (hs : starEach (e :: es) X.env = (false, eval e X.env) :: starEach es X.env := by rfl) (hplain : (backTo cpos (starEach es X.env)).any (·.1) = false := by rfl) :
    PE X (.Call (.Attribute o name apos) (e :: es) [] cpos) (tBM K T r to t) := h ▸ pe_bm pa slot hty hm ho ha hbase hfew hline hs hplain
/-! ### comprehensions' names -/
theorem wipe_in {σ : L2.St} {i : Nat} : ∀ {vs : List Nat}, i ∈ vs → (wipe σ vs)[i]? = if i < σ.length then some none else none
  | v :: vs, h => by
    show ((wipe σ vs).set v none)[i]? = _
    by_cases e : v = i
    · subst e
      rw [List.getElem?_set, if_pos rfl, wipe_length]
    · rw [List.getElem?_set_ne e]
      exact wipe_in ((List.mem_cons.mp h).resolve_left fun z => e z.symm)
theorem setAll_length : ∀ (σ : L2.St) (js : List Nat) (us : List V), (setAll σ js us).length = σ.length
  | _, [], _ => rfl
  | _, _ :: _, [] => rfl
  | σ, j :: js, u :: us => by
    show (setAll (σ.set j (some u)) js us).length = _
    rw [setAll_length, List.length_set]
theorem setAll_out {i : Nat} : ∀ {σ : L2.St} {js : List Nat} {us : List V}, i ∉ js → (setAll σ js us)[i]? = σ[i]?
  | _, [], _, _ => rfl
  | _, _ :: _, [], _ => rfl
  | σ, j :: js, u :: us, h => by
    rw [List.mem_cons, not_or] at h
    show (setAll (σ.set j (some u)) js us)[i]? = _
    rw [setAll_out h.2, List.getElem?_set_ne fun z => h.1 z.symm]
theorem wipe_set {σ : L2.St} {vs js : List Nat} {us : List V} (h : ∀ j ∈ js, j ∈ vs) : wipe (setAll (wipe σ vs) js us) vs = wipe σ vs := by
  apply List.ext_getElem?
  intro i
  by_cases hi : i ∈ vs
  · rw [wipe_in hi, wipe_in hi, setAll_length, wipe_length]
  · rw [wipe_out hi, setAll_out fun z => hi (h i z)]
section
variable [Tbs] {K : PySem.W.Frag} {σ : L2.St} {G H : Hp} {te ta tb : TE}
theorem e_out {vs js : List Nat} {us : List V} {i : Nat} {v : V} {d : D} (hj : i ∉ js) (hv : i ∉ vs) (h : σ[i]? = some (some v)) (r : Rp K G v d) : EvD K (tVar i) (setAll (wipe σ vs) js us) G d :=
  e_var ((setAll_out hj).trans ((wipe_out hv).trans h)) r
theorem setAll_own : ∀ {σ : L2.St} {js : List Nat} {us : List V} {k j : Nat} {u : V}, js.Nodup → js[k]? = some j → us[k]? = some u → j < σ.length → (setAll σ js us)[j]? = some (some u)
  | _, [], _, _, _, _, _, h, _, _ => by simp at h
  | _, _ :: _, [], _, _, _, _, _, h, _ => by simp at h
  | σ, j0 :: js, u0 :: us, 0, j, u, n, h1, h2, h3 => by
    have e1 := Option.some.inj h1
    have e2 := Option.some.inj h2
    subst e1 e2
    show (setAll (σ.set j0 (some u0)) js us)[j0]? = _
    rw [setAll_out (List.nodup_cons.mp n).1, List.getElem?_set_self h3]
  | σ, j0 :: js, u0 :: us, k + 1, j, u, n, h1, h2, h3 => by
    show (setAll (σ.set j0 (some u0)) js us)[j]? = _
    exact setAll_own (List.nodup_cons.mp n).2 h1 h2 (by rw [List.length_set]; exact h3)
theorem e_own {vs js : List Nat} {us : List V} {k j : Nat} {v : V} {d : D} (n : js.Nodup) (h1 : js[k]? = some j) (h2 : us[k]? = some v) (h3 : Nat.ble (j + 1) σ.length = true) (r : Rp K G v d) : EvD K (tVar j) (setAll (wipe σ vs) js us) G d :=
  e_var (setAll_own n h1 h2 (by rw [wipe_length]; exact Nat.le_of_ble_eq_true h3)) r
/-- ns.index(k), k stands there once -/
theorem e_index {ns : List Nat} {k j : Nat} (ha : EvD K ta σ G (.lst (ns.map fun n : Nat => D.int n))) (hb : EvD K tb σ G (.int k)) (hn : ns.Nodup) (hj : ns[j]? = some k) : EvD K (tBM K "list" (rIndex K) ta (tCons tb tNil)) σ G (.int j) := fun H e Q q =>
  ha H e _ fun v G1 H1 s1 r1 => by
    obtain ⟨a, xs, rfl, hs, hx⟩ := r1.lst_of
    refine ⟨.inl ⟨rfl, xs, .of (s1.i _ _ hs)⟩, (hb.mono s1.g) H1 s1.i _ fun y G2 H2 s2 r2 => ?_⟩
    have ey := r2.int_of
    subst ey
    have ex : xs = ns.map fun n : Nat => V.int n := by
      have h := (hx.flat (by rw [List.all_map]; exact List.all_eq_true.mpr fun _ _ => rfl)).1
      rw [List.map_map] at h
      exact h
    subst ex
    have hx2 := s2.g _ _ hs
    refine ⟨a, _, _, j, .int (k : Nat), rfl, rfl, .of (s2.i _ _ hx2), rfl, by rw [List.all_map]; exact List.all_eq_true.mpr fun _ _ => rfl, by rw [List.getElem?_map, hj]; rfl, ?_, fun m z hm hz => ?_, q _ G2 H2 (s1.trans s2) (.int _)⟩
    · show ((k : Int) == (k : Int)) = true
      simp
    · rw [List.getElem?_map] at hz
      cases q : ns[m]? with
      | none => rw [q] at hz; cases hz
      | some n =>
        rw [q] at hz
        have hz : V.int (n : Nat) = z := Option.some.inj hz
        subst hz
        show ((n : Int) == (k : Int)) = false
        have hne : n ≠ k := fun y => by
          subst y
          have hl := (List.getElem?_eq_some_iff.mp q).1
          have := (List.getElem?_inj hl hn).mp (q.trans hj.symm)
          omega
        exact beq_eq_false_iff_ne.mpr fun y => hne (by omega)
theorem pyA_map {α : Type} {f : α → D} : ∀ xs : List α, D.pyA (xs.map f) = xs.map fun x => (f x).py
  | [] => rfl
  | x :: xs => by
    show (f x).py :: D.pyA (xs.map f) = _
    rw [pyA_map xs]
    rfl
theorem f_sortedD {α : Type} {xs : List α} {f : α → D} (h : EvD K te σ G (.lst (xs.map f))) (hp : ∀ x ∈ xs, (f x).plain = true) (hal : PySem.W.AllAlike (xs.map fun x => (f x).py)) (hk : PySem.W.Sortable (xs.map fun x => (f x).py)) (hl : xs.length ≤ 1000000) (hd : ∀ x ∈ xs, (f x).py.depth ≤ 20) :
    EvF K (tCB (rSortedD K) (tCons te tNil)) σ G ((xs.mergeSort (PySem.W.dataLe false fun x => (f x).py)).map f) := fun H e Q q =>
  a_one h H e _ fun us G1 H1 s r => by
    obtain ⟨v, rfl, rr⟩ := r.one
    obtain ⟨a, vs, rfl, hs, ra⟩ := rr.lst_of
    have hlen : vs.length = xs.length := by rw [ra.len, List.length_map]
    let g : V × α → V × PyData := fun p => (p.1, (f p.2).py)
    have hz : (vs.zip xs).map (·.1) = vs := List.map_fst_zip (by omega)
    have hz2 : (vs.zip xs).map (·.2) = xs := List.map_snd_zip (by omega)
    have rz := ra.zip
    have h1 : ((vs.zip xs).map g).map (·.1) = vs := by rw [List.map_map]; exact hz
    have h2 : ((vs.zip xs).map g).map (·.2) = xs.map fun x => (f x).py := by
      rw [List.map_map]
      have h3 : ((vs.zip xs).map (·.2)).map (fun x => (f x).py) = xs.map fun x => (f x).py := by rw [hz2]
      rw [List.map_map] at h3
      exact h3
    have hpl : D.plainA (xs.map f) = true := by
      clear h hs ra rr hal hk hl hd hlen hz hz2 rz h1 h2 q r
      induction xs with
      | nil => rfl
      | cons x xs ih =>
        show ((f x).plain && D.plainA (xs.map f)) = true
        rw [hp x List.mem_cons_self, ih fun y hy => hp y (List.mem_cons_of_mem _ hy)]
        rfl
    refine ⟨a, (vs.zip xs).map g, rfl, by rw [h1]; exact .of (s.i _ _ hs), ?_, by rw [h2]; exact hal, by rw [h2]; exact hk, by rw [List.length_map, List.length_zip]; omega, fun b hb => ?_, fun l hl2 => ?_⟩
    · rw [h1, h2, ← pyA_map]
      exact (ra.ex s.i).dp hpl
    · obtain ⟨p, hp', rfl⟩ := List.mem_map.mp hb
      exact hd p.2 (by rw [← hz2]; exact List.mem_map.mpr ⟨p, hp', rfl⟩)
    · have hsort : ((vs.zip xs).map g).mergeSort (PySem.W.dataLe false fun b : V × PyData => b.2) = ((vs.zip xs).mergeSort fun p q => PySem.W.dataLe false (fun x : α => (f x).py) p.2 q.2).map g := (List.map_mergeSort (l := vs.zip xs) (r := fun p q : V × α => PySem.W.dataLe false (fun x : α => (f x).py) p.2 q.2) (s := PySem.W.dataLe false fun b : V × PyData => b.2) (f := g) fun p _ q _ => rfl).symm
      have hxs : xs.mergeSort (PySem.W.dataLe false fun x => (f x).py) = ((vs.zip xs).mergeSort fun p q => PySem.W.dataLe false (fun x : α => (f x).py) p.2 q.2).map (·.2) := by
        have h3 := List.map_mergeSort (l := vs.zip xs) (r := fun p q : V × α => PySem.W.dataLe false (fun x : α => (f x).py) p.2 q.2) (s := PySem.W.dataLe false fun x : α => (f x).py) (f := fun p => p.2) fun p _ q _ => rfl
        rw [h3, hz2]
      rw [hsort, List.map_map]
      refine q l _ G1 _ (s.trans (Step.own s.i hl2)) (s.pre hl2) (fresh_back s.i hl2) upd_same ?_
      rw [hxs]
      exact RpA.of_pairs fun p hp' => rz p (List.mem_mergeSort.mp hp')
end
end J

/-! Own objects that change: what a walk has done so far to a set of them. -/
namespace J
open PySem PySem.Spec PyProof.Rows L2 Evl
section
variable [Tbs] {K : PySem.W.Frag} {M M0 M1 M2 G G0 H0 G1 G2 H H1 H2 G' H' : Hp}
theorem Step.hideMore (o : Owns M G H) (sub : ∀ b u, M2 b = some u → M b = some u) (s : Step G (hideM M2 H) G' H') : Step G (hideM M H) G' H' := by
  have e0 : ∀ b u, hideM M H b = some u → hideM M2 H b = some u := fun b u hb => by
    obtain ⟨h1, h2⟩ := hideM_of hb
    rw [hideM_none]
    · exact h2
    · cases q : M2 b with
      | none => rfl
      | some w => rw [sub b w q] at h1; cases h1
  refine ⟨s.g, s.i, (Ex.of e0).trans s.h, fun b u h1 h2 h3 => s.n b u h1 (e0 b u h2) h3, fun b u h1 h2 h3 => ?_⟩
  cases q : hideM M2 H b with
  | none => exact s.c b u q h2 h3
  | some w =>
    obtain ⟨_, hw⟩ := hideM_of q
    have hM : ∃ z, M b = some z := by
      cases y : M b with
      | some z => exact ⟨z, rfl⟩
      | none => rw [hideM_none y, hw] at h1; cases h1
    obtain ⟨z, hz⟩ := hM
    have e1 := o.h b z hz
    rw [hw] at e1
    cases e1
    have nc := (o.t b _ hz).2
    have e2 := s.h.k b _ q (isTbl_code nc)
    rw [h2] at e2
    cases e2
    rw [nc] at h3
    cases h3
/-- since (G, M, H), where the own objects at as may change: as' what may have come -/
structure Chg (G M H : Hp) (as : List Addr) (G' M' H' : Hp) (as' : List Addr) : Prop where
  s : Step G (hideM M H) G' H'
  o : Owns M' G' H'
  o0 : Owns M G H
  d : ∀ b u, M' b = some u → hideM M H b = none
  f : ∀ b u, M b = some u → b ∉ as → M' b = some u
  n : ∀ b ∈ as', b ∈ as ∨ H b = none
variable {as as0 as1 as2 : List Addr} {l p : Addr} {u w : HO}
theorem Chg.refl (e : Ex G H) (o : Owns M G H) : Chg G M H as G M H as := ⟨Step.startM e o, o, o, fun b u h => hideM_some h, fun _ _ h _ => h, fun b h => .inl h⟩
theorem Chg.ii (c : Chg G0 M0 H0 as0 G M H as) : Ex G H := c.s.i
theorem Chg.gg (c : Chg G0 M0 H0 as0 G M H as) : Ex G0 G := c.s.g
/-- what is new now was new then -/
theorem Chg.pre (c : Chg G0 M0 H0 as0 G M H as) (h : H p = none) : p ∈ as0 ∨ H0 p = none := by
  have h1 := fresh_back c.s.h h
  cases q : M0 p with
  | none => rw [hideM_none q] at h1; exact .inr h1
  | some x =>
    by_cases z : p ∈ as0
    · exact .inl z
    · have := c.o.h _ _ (c.f p x q z)
      rw [h] at this
      cases this
theorem Chg.trans (a : Chg G0 M0 H0 as0 G M H as) (b : Chg G M H as G1 M1 H1 as1) : Chg G0 M0 H0 as0 G1 M1 H1 as1 := by
  refine ⟨a.s.transM a.o a.d b.s, b.o, a.o0, fun x u h => ?_, fun x u h hn => ?_, fun x hx => ?_⟩
  · have h1 := b.d x u h
    cases q : M x with
    | some y => exact a.d x y q
    | none =>
      rw [hideM_none q] at h1
      exact fresh_back a.s.h h1
  · have h1 := a.f x u h hn
    refine b.f x u h1 fun z => ?_
    rcases a.n x z with y | y
    · exact hn y
    · rw [a.o0.h x u h] at y
      cases y
  · rcases b.n x hx with y | y
    · exact a.n x y
    · exact a.pre y
theorem Chg.then (a : Chg G0 M0 H0 as0 G M H as) (s : Step G H G1 H1) : Chg G0 M0 H0 as0 G1 M H1 as := ⟨a.s.trans s, a.o.step s, a.o0, a.d, a.f, a.n⟩
theorem Chg.grow (a : Chg G0 M0 H0 as0 G M H as) (h : ∀ b ∈ as, b ∈ as1) (h0 : ∀ b ∈ as1, b ∈ as ∨ b ∈ as0) : Chg G0 M0 H0 as0 G M H as1 := ⟨a.s, a.o, a.o0, a.d, a.f, fun b hb => (h0 b hb).elim (a.n b) .inl⟩
/-- seen with more that may change -/
theorem Chg.wide (a : Chg G0 M0 H0 as0 G M H as) (h : ∀ b ∈ as0, b ∈ as1) : Chg G0 M0 H0 as1 G M H (as ++ as1) := ⟨a.s, a.o, a.o0, a.d, fun b u h1 h2 => a.f b u h1 fun z => h2 (h b z), fun b hb => by
  rcases List.mem_append.mp hb with z | z
  · exact (a.n b z).imp (h b) id
  · exact .inl z⟩
/-- an own object changes -/
theorem Chg.upd (a : Chg G0 M0 H0 as0 G M H as) (hl : l ∈ as) (hm : M l = some u) (hw : isTup w = false ∧ isCode w = false := by exact ⟨rfl, rfl⟩) : Chg G0 M0 H0 as0 G (L2.upd M l w) (L2.upd H l w) as :=
  ⟨a.s.mut (a.d l u hm) (a.o.g l u hm) hw.2, a.o.upd hm hw, a.o0, fun b x hb => by
    by_cases z : b = l
    · subst z; exact a.d b u hm
    · rw [upd_ne z] at hb; exact a.d b x hb, fun b x hb hn => by
    have z : b ≠ l := fun z => by
      subst z
      rcases a.n b hl with y | y
      · exact hn y
      · rw [a.o0.h b x hb] at y
        cases y
    rw [upd_ne z]
    exact a.f b x hb hn, a.n⟩
theorem Owns.put (o : Owns M G H) (hg : G p = none) (hx : H p = some w) (hw : isTup w = false ∧ isCode w = false) : Owns (L2.upd M p w) G H := ⟨fun b x hb => by
    by_cases z : b = p
    · subst z; exact hg
    · rw [upd_ne z] at hb; exact o.g b x hb, fun b x hb => by
    by_cases z : b = p
    · subst z; rw [upd_same] at hb; cases hb; exact hx
    · rw [upd_ne z] at hb; exact o.h b x hb, fun b x hb => by
    by_cases z : b = p
    · subst z; rw [upd_same] at hb; cases hb; exact hw
    · rw [upd_ne z] at hb; exact o.t b x hb⟩
/-- a new object is taken as own -/
theorem Chg.took (a : Chg G0 M0 H0 as0 G M H as) (s : Step G H G1 H1) (hp : H p = none) (hg : G1 p = none) (hx : H1 p = some w) (hw : isTup w = false ∧ isCode w = false := by exact ⟨rfl, rfl⟩) : Chg G0 M0 H0 as0 G1 (L2.upd M p w) H1 (p :: as) := by
  have b := a.then s
  refine ⟨b.s, b.o.put hg hx hw, a.o0, fun x u hb => ?_, fun x u hb hn => ?_, fun x hx' => ?_⟩
  · by_cases z : x = p
    · subst z; exact fresh_back a.s.h hp
    · rw [upd_ne z] at hb; exact a.d x u hb
  · have h1 := a.f x u hb hn
    rw [upd_ne (fun z => by subst z; rw [a.o.h x u h1] at hp; cases hp)]
    exact h1
  · rcases List.mem_cons.mp hx' with z | z
    · subst z; exact a.pre hp
    · exact a.n x z
theorem Chg.new (a : Chg G0 M0 H0 as0 G M H as) (hp : H p = none) (hw : isTup w = false ∧ isCode w = false := by exact ⟨rfl, rfl⟩) : Chg G0 M0 H0 as0 G (L2.upd M p w) (L2.upd H p w) (p :: as) :=
  a.took (Step.own a.ii hp hw.2) hp (fresh_back a.ii hp) upd_same hw
/-- what stands and is no own one stays as it is from now on -/
theorem Chg.freeze (a : Chg G0 M0 H0 as0 G M H as) (hp : hideM M0 H0 p = none) (hg : G p = none) (hx : H p = some w) (hm : M p = none) : Chg G0 M0 H0 as0 (L2.upd G p w) M H as :=
  ⟨a.s.freeze hp hg hx, ⟨fun b u hb => by rw [upd_ne (fun z => by subst z; rw [hm] at hb; cases hb)]; exact a.o.g b u hb, a.o.h, a.o.t⟩, a.o0, a.d, a.f, a.n⟩
theorem Chg.ne (a : Chg G0 M0 H0 as0 G M H as) (hp : H p = none) : M p = none := by
  cases q : M p with
  | none => rfl
  | some x => rw [a.o.h p x q] at hp; cases hp
/-- others keep apart -/
theorem Chg.apart {bs : List Addr} (a : Chg G0 M0 H0 as0 G M H as) (h : ∀ b ∈ bs, b ∉ as0 ∧ H0 b ≠ none) : ∀ b ∈ bs, b ∉ as := fun b hb z => (a.n b z).elim (h b hb).1 (h b hb).2
/-! ### reading -/
variable {σ : L2.St} {te ta tb tc to : TE} {ar : TA} {t : TT} {b : Bool} {ds : List D} {d : D} {Dn : Ends} {tu tw tz : TS} {i j : Nat} {a : Addr} {kvs : List (List Key × V)} {xs : List V} {ks : List Key}
theorem q_asgC' (c : Chg G0 M0 H0 as0 G M H as) (h : EvD K te σ (over G M) d) (hd : d.tupO = true) (k : ∀ v G1 H1, Ex G G1 → Chg G0 M0 H0 as0 G1 M H1 as → Rp K G1 v d → tz Dn (σ.set i (some v)) H1) : tSeq (tAsg te (gName i)) tz Dn σ H :=
  q_asgM c.ii c.o h hd fun v G1 H1 s o r => k v G1 H1 s.g (c.then s) r
theorem q_asgLC (c : Chg G0 M0 H0 as0 G M H as) (h : EvF K te σ (over G M) ds) (hd : D.tupOA ds = true) (k : ∀ v G1 H1, Ex G G1 → Chg G0 M0 H0 as0 G1 M H1 as → Rp K G1 v (.lst ds) → tz Dn (σ.set i (some v)) H1) : tSeq (tAsg te (gName i)) tz Dn σ H :=
  h.own hd c.ii c.o _ fun p xs G1 H1 s o1 h1 h2 h3 r => k _ _ H1 (s.g.trans (Ex.new h2)) ((c.then s).freeze (fresh_back c.s.h h1) h2 h3 (c.ne h1)) (.lst upd_same (r.ex (Ex.new h2)))
theorem q_whenC (c : Chg G0 M0 H0 as0 G M H as) (h : EvB t σ (over G M) b) (h1 : b = true → ∀ G1 H1, Ex G G1 → Chg G0 M0 H0 as0 G1 M H1 as → tu { Dn with nx := tz Dn } σ H1) (h2 : b = false → ∀ G1 H1, Ex G G1 → Chg G0 M0 H0 as0 G1 M H1 as → tz Dn σ H1) : tSeq (tIfS t tu tNext) tz Dn σ H :=
  q_whenM c.ii c.o h (fun z G1 H1 s _ => h1 z G1 H1 s.g (c.then s)) fun z G1 H1 s _ => h2 z G1 H1 s.g (c.then s)
theorem s_ifC (c : Chg G0 M0 H0 as0 G M H as) (h : EvB t σ (over G M) b) (h1 : b = true → ∀ G1 H1, Ex G G1 → Chg G0 M0 H0 as0 G1 M H1 as → tu Dn σ H1) (h2 : b = false → ∀ G1 H1, Ex G G1 → Chg G0 M0 H0 as0 G1 M H1 as → tw Dn σ H1) : tIfS t tu tw Dn σ H :=
  s_ifM c.ii c.o h (fun z G1 H1 s _ => h1 z G1 H1 s.g (c.then s)) fun z G1 H1 s _ => h2 z G1 H1 s.g (c.then s)
theorem s_retC (c : Chg G0 M0 H0 as0 G M H as) (h : EvD K te σ (over G M) d) (hd : d.tupO = true) (k : ∀ v G1 H1, Ex G G1 → Chg G0 M0 H0 as0 G1 M H1 as → Rp K G1 v d → Dn.rt v H1) : tRet te Dn σ H :=
  s_retM c.ii c.o h hd fun v G1 H1 s _ r => k v G1 H1 s.g (c.then s) r
theorem q_dropC (c : Chg G0 M0 H0 as0 G M H as) (h : EvD K te σ (over G M) d) (hd : d.tupO = true) (k : ∀ G1 H1, Ex G G1 → Chg G0 M0 H0 as0 G1 M H1 as → tz Dn σ H1) : tSeq (tDrop te) tz Dn σ H :=
  h.own hd c.ii c.o _ fun v G1 H1 s _ r => k G1 H1 s.g (c.then s)
theorem EvO.own (h : EvO te σ (over G M) a) (c : Chg G0 M0 H0 as0 G M H as) (Q : VK) (k : ∀ G1 H1, Ex G G1 → Chg G0 M0 H0 as0 G1 M H1 as → Q (.ref a) H1) : te σ H Q :=
  h H (c.o.ex c.ii) _ fun G1 H1 s => by
    obtain ⟨G2, s2, _⟩ := s.thawM c.o
    exact k G2 H1 s2.g (c.then s2)
theorem EvD.chg (h : EvD K te σ (over G M) d) (hd : d.tupO = true) (c : Chg G0 M0 H0 as0 G M H as) (Q : VK) (k : ∀ v G1 H1, Ex G G1 → Chg G0 M0 H0 as0 G1 M H1 as → Rp K G1 v d → Q v H1) : te σ H Q :=
  h.own hd c.ii c.o _ fun v G1 H1 s _ r => k v G1 H1 s.g (c.then s) r
theorem EvB.chg (h : EvB t σ (over G M) b) (c : Chg G0 M0 H0 as0 G M H as) (Q : Bool → Hp → Prop) (k : ∀ G1 H1, Ex G G1 → Chg G0 M0 H0 as0 G1 M H1 as → Q b H1) : t σ H Q :=
  h.own c.ii c.o _ fun G1 H1 s _ => k G1 H1 s.g (c.then s)
theorem EvAs.chg (h : EvAs K ar σ (over G M) ds) (hd : D.tupOA ds = true) (c : Chg G0 M0 H0 as0 G M H as) (Q : List V → Hp → Prop) (k : ∀ vs G1 H1, Ex G G1 → Chg G0 M0 H0 as0 G1 M H1 as → RpA K G1 vs ds → Q vs H1) : ar σ H Q :=
  h H (c.o.ex c.ii) _ fun vs G1 H1 s r => by
    obtain ⟨G2, s2, o2, tr, _, gM⟩ := s.thawM c.o
    exact k vs G2 H1 s2.g (c.then s2) (r.off (off_tr c.o tr gM) hd)
/-! ### changing -/
/-- l.append(e) -/
theorem e_appM (c : Chg G0 M0 H0 as0 G M H as) (hl : l ∈ as) (hm : M l = some (.lst xs)) (ho : EvO ta σ (over G M) l) (h : EvD K te σ (over G M) d) (hd : d.tupO = true) (hz : xs.length < 100000) (Q : VK)
    (k : ∀ v G1 H1, Ex G G1 → Chg G0 M0 H0 as0 G1 (upd M l (.lst (xs ++ [v]))) H1 as → Rp K G1 v d → Q .non H1) : tBM K "list" rAppend ta (tCons te tNil) σ H Q :=
  ho H (c.o.ex c.ii) _ fun G1 H1 s1 => ⟨Or.inl ⟨rfl, xs, .of (s1.i _ _ (s1.g _ _ (over_some hm)))⟩, (h.mono s1.g) H1 s1.i _ fun v G2 H2 s2 r => by
    obtain ⟨G3, s3, o3, tr, _, gM⟩ := (s1.trans s2).thawM c.o
    exact ⟨l, xs, v, rfl, rfl, o3.h _ _ hm, sz_lt hz, k v G3 _ s3.g ((c.then s3).upd hl hm) (r.off (off_tr c.o tr gM) hd)⟩⟩
theorem s_appM (c : Chg G0 M0 H0 as0 G M H as) (hl : l ∈ as) (hm : M l = some (.lst xs)) (ho : EvO ta σ (over G M) l) (h : EvD K te σ (over G M) d) (hd : d.tupO = true) (hz : xs.length < 100000)
    (k : ∀ v G1 H1, Ex G G1 → Chg G0 M0 H0 as0 G1 (upd M l (.lst (xs ++ [v]))) H1 as → Rp K G1 v d → Dn.nx σ H1) : tDrop (tBM K "list" rAppend ta (tCons te tNil)) Dn σ H := e_appM c hl hm ho h hd hz _ k
theorem q_appM (c : Chg G0 M0 H0 as0 G M H as) (hl : l ∈ as) (hm : M l = some (.lst xs)) (ho : EvO ta σ (over G M) l) (h : EvD K te σ (over G M) d) (hd : d.tupO = true) (hz : xs.length < 100000)
    (k : ∀ v G1 H1, Ex G G1 → Chg G0 M0 H0 as0 G1 (upd M l (.lst (xs ++ [v]))) H1 as → Rp K G1 v d → tz Dn σ H1) : tSeq (tDrop (tBM K "list" rAppend ta (tCons te tNil))) tz Dn σ H := e_appM c hl hm ho h hd hz _ k
/-- l[j] = e -/
theorem s_setC (c : Chg G0 M0 H0 as0 G M H as) (hl : l ∈ as) (hm : M l = some (.lst xs)) (h : EvD K te σ (over G M) d) (hd : d.tupO = true) (ho : EvO ta σ (over G M) l) (hi : EvD K tb σ (over G M) (.int j)) (hj : j < xs.length)
    (k : ∀ v G1 H1, Ex G G1 → Chg G0 M0 H0 as0 G1 (upd M l (.lst (xs.set j v))) H1 as → Rp K G1 v d → Dn.nx σ H1) : tAsg te (gSub ta tb rSetL) Dn σ H :=
  h H (c.o.ex c.ii) _ fun v G1 H1 s1 r1 => (ho.mono s1.g) H1 s1.i _ fun G2 H2 s2 => (hi.mono (s1.g.trans s2.g)) H2 s2.i _ fun w G3 H3 s3 r3 => by
    obtain ⟨G4, s4, o4, tr, _, gM⟩ := ((s1.trans s2).trans s3).thawM c.o
    exact ⟨l, xs, (j : Int), j, rfl, r3.int_of, o4.h _ _ hm, Evl.ixN_nat hj, k v G4 _ s4.g ((c.then s4).upd hl hm) ((r1.ex (s2.g.trans s3.g)).off (off_tr c.o tr gM) hd)⟩
theorem q_setC (c : Chg G0 M0 H0 as0 G M H as) (hl : l ∈ as) (hm : M l = some (.lst xs)) (h : EvD K te σ (over G M) d) (hd : d.tupO = true) (ho : EvO ta σ (over G M) l) (hi : EvD K tb σ (over G M) (.int j)) (hj : j < xs.length)
    (k : ∀ v G1 H1, Ex G G1 → Chg G0 M0 H0 as0 G1 (upd M l (.lst (xs.set j v))) H1 as → Rp K G1 v d → tz Dn σ H1) : tSeq (tAsg te (gSub ta tb rSetL)) tz Dn σ H := s_setC (Dn := { Dn with nx := tz Dn }) c hl hm h hd ho hi hj k
/-- l[key] = e, a key that is a tuple -/
theorem s_dputC {d2 : D} (c : Chg G0 M0 H0 as0 G M H as) (hl : l ∈ as) (hm : M l = some (.dT kvs)) (h : EvD K te σ (over G M) d) (hf : d.flat = true) (ho : EvO ta σ (over G M) l) (hk : EvD K tb σ (over G M) d2) (hkd : d2 = .tup (ks.map kD)) (hz : kvs.length < 1000000)
    (k : ∀ G1 H1, Ex G G1 → Chg G0 M0 H0 as0 G1 (upd M l (.dT (putK kvs ks d.toV))) H1 as → Dn.nx σ H1) : sDPut ta tb te Dn σ H :=
  h H (c.o.ex c.ii) _ fun v G1 H1 s1 r1 => (ho.mono s1.g) H1 s1.i _ fun G2 H2 s2 => (hk.mono (s1.g.trans s2.g)) H2 s2.i _ fun y G3 H3 s3 r3 => by
    subst hkd
    obtain ⟨b, ys, rfl, hb, hys⟩ := r3.tup_of
    have z := hys.keys
    subst z
    obtain ⟨G4, s4, o4, tr, _, gM⟩ := ((s1.trans s2).trans s3).thawM c.o
    rw [(r1.flat hf).1]
    exact ⟨l, _, rfl, DPut.t (o4.h _ _ hm) (s3.i _ _ hb) (by rw [sizeLine_eq]; omega), k G4 _ s4.g ((c.then s4).upd hl hm)⟩
theorem q_dputC {d2 : D} (c : Chg G0 M0 H0 as0 G M H as) (hl : l ∈ as) (hm : M l = some (.dT kvs)) (h : EvD K te σ (over G M) d) (hf : d.flat = true) (ho : EvO ta σ (over G M) l) (hk : EvD K tb σ (over G M) d2) (hkd : d2 = .tup (ks.map kD)) (hz : kvs.length < 1000000)
    (k : ∀ G1 H1, Ex G G1 → Chg G0 M0 H0 as0 G1 (upd M l (.dT (putK kvs ks d.toV))) H1 as → tz Dn σ H1) : tSeq (sDPut ta tb te) tz Dn σ H := s_dputC (Dn := { Dn with nx := tz Dn }) c hl hm h hf ho hk hkd hz k
/-- o.f = a new list -/
theorem s_fldC {C dx o : Addr} {fs : List (Str × V)} {f : Str} (c : Chg G0 M0 H0 as0 G M H as) (hl : o ∈ as) (hm : M o = some (.ins C dx fs)) (h : EvF K te σ (over G M) ds) (hd : D.tupOA ds = true) (ho : EvO to σ (over G M) o) (cl : Cls K C) (n : NoAttr K C f) (hz : fs.length < 1000)
    (k : ∀ p xs G1 H1, Ex G G1 → M p = none → H p = none → p ≠ o → Chg G0 M0 H0 as0 G1 (upd (upd M p (.lst xs)) o (.ins C dx (putF f (.ref p) fs))) H1 (p :: as) → RpA K G1 xs ds → Dn.nx σ H1) : sFld K to te f Dn σ H :=
  h.own hd c.ii c.o _ fun p xs G1 H1 s1 o1 h1 h2 h3 r => by
    have c1 := (c.then s1)
    have c2 := c.took s1 h1 h2 h3
    have np : p ≠ o := fun z => by rw [z, c.o.h o _ hm] at h1; cases h1
    have hm2 : upd M p (.lst xs) o = some (.ins C dx fs) := by rw [upd_ne (Ne.symm np)]; exact hm
    have e12 : Ex (over G M) (over G1 (upd M p (.lst xs))) := by
      refine ⟨fun b u hb t => ?_, fun b ps hb => ?_⟩
      · cases q : M b with
        | some w =>
          rw [over_some q] at hb
          cases hb
          rw [over_some (by rw [upd_ne (fun z => by rw [z, c.ne h1] at q; cases q)]; exact q)]
        | none =>
          rw [over_none q] at hb
          have hb1 := s1.g.k b u hb t
          by_cases z : b = p
          · subst z; rw [h2] at hb1; cases hb1
          · rw [over_none (by rw [upd_ne z]; exact q)]; exact hb1
      · cases q : M b with
        | some w =>
          rw [over_some q] at hb
          cases hb
          have := (c.o.t b _ q).2
          cases this
        | none =>
          rw [over_none q] at hb
          obtain ⟨ps', k1, gr⟩ := s1.g.t b ps hb
          by_cases z : b = p
          · subst z; rw [h2] at k1; cases k1
          · refine ⟨ps', by rw [over_none (by rw [upd_ne z]; exact q)]; exact k1, fun ht => ?_⟩
            obtain ⟨k2, k3⟩ := gr ht
            refine ⟨k2, fun pos cv hcv => (k3 pos cv hcv).elim .inl fun ⟨x, e1, e2⟩ => .inr ⟨x, e1, ?_⟩⟩
            rw [over_none]
            · exact e2
            · cases y : upd M p (.lst xs) x with
              | none => rfl
              | some w =>
                have := c2.o.g x w y
                rw [this] at e2
                cases e2
    refine (ho.mono e12).own c2 _ fun G2 H2 e2 c3 => ?_
    exact ⟨o, C, dx, fs, rfl, c3.o.h _ _ hm2, cl, n, hz, k p xs G2 _ (s1.g.trans e2) (c.ne h1) h1 np (c3.upd (List.mem_cons_of_mem _ hl) hm2) (r.ex e2)⟩
theorem q_fldC {C dx o : Addr} {fs : List (Str × V)} {f : Str} (c : Chg G0 M0 H0 as0 G M H as) (hl : o ∈ as) (hm : M o = some (.ins C dx fs)) (h : EvF K te σ (over G M) ds) (hd : D.tupOA ds = true) (ho : EvO to σ (over G M) o) (cl : Cls K C) (n : NoAttr K C f) (hz : fs.length < 1000)
    (k : ∀ p xs G1 H1, Ex G G1 → M p = none → H p = none → p ≠ o → Chg G0 M0 H0 as0 G1 (upd (upd M p (.lst xs)) o (.ins C dx (putF f (.ref p) fs))) H1 (p :: as) → RpA K G1 xs ds → tz Dn σ H1) : tSeq (sFld K to te f) tz Dn σ H := s_fldC (Dn := { Dn with nx := tz Dn }) c hl hm h hd ho cl n hz k
/-! ### draws, the dice among the own objects -/
def DiceM (M : Hp) (p : Addr) : Prop := ∃ ms : List Int, M p = some (.lst (ms.map V.int)) ∧ DOk ms
def delM (M : Hp) (p : Addr) : Hp := fun b => if b = p then none else M b
theorem delM_of {b : Addr} (h : delM M p b = some u) : b ≠ p ∧ M b = some u := by
  unfold delM at h
  split at h
  · cases h
  · rename_i z
    exact ⟨z, h⟩
theorem delM_ne {b : Addr} (h : b ≠ p) : delM M p b = M b := if_neg h
theorem delM_same : delM M p p = none := if_pos rfl
theorem hide_own1 {o : HO} : hideM (own1 p o) H = hide p H := by
  funext b
  by_cases z : b = p
  · subst z; rw [hideM_some own1_same, hide_p]
  · rw [hideM_none (own1_ne z), hide_ne z]
theorem delM_owns (o : Owns M G H) : Owns (delM M p) G (hide p H) := ⟨fun b u hb => o.g b u (delM_of hb).2, fun b u hb => by
  obtain ⟨z, h⟩ := delM_of hb
  rw [hide_ne z]
  exact o.h b u h, fun b u hb => o.t b u (delM_of hb).2⟩
theorem delM_owns' (o : Owns M G H) : Owns (delM M p) G H := ⟨fun b u hb => o.g b u (delM_of hb).2, fun b u hb => o.h b u (delM_of hb).2, fun b u hb => o.t b u (delM_of hb).2⟩
/-- beside the dice -/
theorem Chg.dice (c : Chg G0 M0 H0 as0 G M H as) (hp : p ∈ as) (hm : DiceM M p) (s : Step G (hide p H) G1 H1) (o1 : Owns (delM M p) G1 H1) (g1 : G1 p = none) (d1 : Dice p H1) : ∃ M1, Chg G0 M0 H0 as0 G1 M1 H1 as ∧ DiceM M1 p ∧ ∀ b, b ≠ p → M1 b = M b := by
  obtain ⟨ms, hms, ok⟩ := hm
  obtain ⟨ms1, hx, ok1⟩ := d1
  have s2 : Step G (hideM M H) G1 H1 := by
    rw [← hide_own1 (o := .lst (ms.map V.int))] at s
    exact s.hideMore c.o fun b u hb => by
      obtain ⟨z, w⟩ := own1_of hb
      rw [z, w]
      exact hms
  have o2 : Owns (L2.upd M p (.lst (ms1.map V.int))) G1 H1 := ⟨fun b u hb => by
    by_cases z : b = p
    · subst z; exact g1
    · rw [upd_ne z] at hb; exact o1.g b u (by rw [delM_ne z]; exact hb), fun b u hb => by
    by_cases z : b = p
    · subst z; rw [upd_same] at hb; cases hb; exact hx
    · rw [upd_ne z] at hb; exact o1.h b u (by rw [delM_ne z]; exact hb), fun b u hb => by
    by_cases z : b = p
    · subst z; rw [upd_same] at hb; cases hb; exact ⟨rfl, rfl⟩
    · rw [upd_ne z] at hb; exact o1.t b u (by rw [delM_ne z]; exact hb)⟩
  refine ⟨L2.upd M p (.lst (ms1.map V.int)), ⟨c.s.transM c.o c.d s2, o2, c.o0, fun b u hb => ?_, fun b u hb hn => ?_, c.n⟩, ⟨ms1, upd_same, ok1⟩, fun b z => upd_ne z⟩
  · by_cases z : b = p
    · subst z; exact c.d b _ hms
    · rw [upd_ne z] at hb; exact c.d b u hb
  · have h1 := c.f b u hb hn
    have z : b ≠ p := fun z => by
      subst z
      rcases c.n b hp with y | y
      · exact hn y
      · rw [c.o0.h b u hb] at y; cases y
    rw [upd_ne z]
    exact h1
variable {R : D → Prop} {Rs : List D → Prop}
theorem EvR.chg (c : Chg G0 M0 H0 as0 G M H as) (hp : p ∈ as) (hm : DiceM M p) (h : EvR K p te σ (over G (delM M p)) R) (hf : ∀ d, R d → d.tupO = true) (Q : VK)
    (k : ∀ v d G1 H1 M1, Ex G G1 → Chg G0 M0 H0 as0 G1 M1 H1 as → DiceM M1 p → (∀ b, b ≠ p → M1 b = M b) → R d → Rp K G1 v d → Q v H1) : te σ H Q := by
  have hm0 := hm
  obtain ⟨ms, hms, ok⟩ := hm0
  have gp := c.o.g p _ hms
  have o' := delM_owns (p := p) c.o
  refine h H ((delM_owns' c.o).ex c.ii) (by rw [over_none delM_same]; exact gp) ⟨ms, c.o.h _ _ hms, ok⟩ Q fun v d G1 H1 s g1 d1 r rp => ?_
  obtain ⟨G2, s2, o2, tr, fr, gM⟩ := s.thawM o'
  obtain ⟨M1, c1, dm, hM⟩ := c.dice hp hm s2 o2 (fr p g1) d1
  exact k v d G2 H1 M1 s2.g c1 dm hM r (rp.off (off_tr o' tr gM) (hf d r))
theorem EvRF.chg (c : Chg G0 M0 H0 as0 G M H as) (hp : p ∈ as) (hm : DiceM M p) (h : EvRF K p te σ (over G (delM M p)) Rs) (hf : ∀ ds, Rs ds → D.tupOA ds = true) (Q : VK)
    (k : ∀ v ds G1 H1 M1, Ex G G1 → Chg G0 M0 H0 as0 G1 M1 H1 as → DiceM M1 p → (∀ b, b ≠ p → M1 b = M b) → Rs ds → Rp K G1 v (.lst ds) → Q v H1) : te σ H Q := by
  have hm0 := hm
  obtain ⟨ms, hms, ok⟩ := hm0
  have gp := c.o.g p _ hms
  have o' := delM_owns (p := p) c.o
  refine h H ((delM_owns' c.o).ex c.ii) (by rw [over_none delM_same]; exact gp) ⟨ms, c.o.h _ _ hms, ok⟩ Q fun q xs ds G1 H1 s q1 q2 q3 r rp => ?_
  have ss := s.s
  obtain ⟨G2, s2, o2, tr, fr, gM⟩ := ss.thawM o'
  obtain ⟨M1, c1, dm, hM⟩ := c.dice hp hm s2 o2 (fr p s.g) s.d
  have nq : q ≠ p := fun z => by rw [z, c.o.h _ _ hms] at q1; cases q1
  have hMq : M1 q = none := by rw [hM q nq]; exact c.ne q1
  have c2 := c1.freeze (fresh_back c.s.h q1) (fr q q2) q3 hMq
  exact k _ ds _ H1 M1 (s2.g.trans (Ex.new (fr q q2))) c2 dm hM r (.lst upd_same ((rp.off (off_tr o' tr gM) (hf ds r)).ex (Ex.new (fr q q2))))
end
end J

/-! Dicts of mixed values by texts; pop with a default; loops over own lists; methods of own instances. -/
namespace J
open PySem PySem.Spec PyProof.Rows L2 Evl
open L2.DX (rPopT mt_popT)
/-- d.update(o), keys whole numbers or texts -/
def tDUpdK (td ty : TE) : TE := fun σ H Q => td σ H fun x H1 => ∃ a, x = .ref a ∧ IsD H1 a ∧ ty σ H1 fun y H2 => ∃ (b : Addr) (kvs more : List (Key × V)), y = .ref b ∧ H2 a = some (.dK kvs) ∧ H2 b = some (.dK more) ∧ a ≠ b ∧ kvs.length + more.length ≤ 1000000 ∧ Q .non (upd H2 a (.dK (mergeK kvs more)))
theorem pe_dupdK {X : Cx} {o e : Expr} {td ty : TE} {apos cpos : Pos} (ho : PE X o td) (he : PE X e ty) (m : M1 X o "update" apos e cpos) : PE X (.Call (.Attribute o "update" apos) [e] [] cpos) (tDUpdK td ty) := by
  refine ⟨fun pins s σ H Q I h => ?_⟩
  refine wpAny_Call_method m.base m.few m.line PySem.F.plainAttrs_dict PySem.F.slot_dict_update PySem.F.type_dict_update (thn (ho.run pins s σ H _ I h) fun u s1 ⟨x, H1, I1, rx, a, ex, d, q1⟩ => ?_)
  subst ex
  obtain rfl : u = Value.ref a := rx
  obtain ⟨t1, t2, _⟩ := isD_at I1 d
  refine ⟨t1, t2, ?_⟩
  rw [m.trees]
  refine Calls.callWith_builtin rfl (Calls.evalArgs_plain (Calls.spliced_cons (thn (he.run pins s1 σ H1 _ I1 q1) fun iv s2 ⟨y, H2, I2, ry, b, kvs, more, ey, ea, eb, nab, hz, q2⟩ => Calls.spliced_nil ?_)))
  subst ey
  cases (show iv = Value.ref b from ry)
  obtain ⟨z0, hd, vs, rel, dd⟩ := dk_of I2.hok ea
  obtain ⟨z1, ho', ws, rel2, dd2⟩ := dk_of I2.hok eb
  have l1 : vs.length = kvs.length := (Paired.length rel).symm
  have l2 : ws.length = more.length := (Paired.length rel2).symm
  have hz2 : (mergeK kvs more).length ≤ sizeLine := by
    have h1 := length_mergeK more kvs
    rw [sizeLine_eq]
    omega
  refine call_meetsIn PySem.F.slot_dict_update dd.typeIs PySem.F.entry_dict_update (PySem.F.args_dict_update_2 _ _) (meets_dict_update (mixKind X.prog X.w) a b nab ho')
    ⟨vs, ws, dd, dd2, by rw [l1, l2, sizeLine_eq]; omega, fun h' dd' _ sb => ?_⟩
  have hq : ∃ q, h'.get? a = some q := let ⟨q, _, _, hq, _⟩ := dd'; ⟨q, hq⟩
  exact ⟨.non, _, d_write (t' := s2.toks) (ob := .dK (mergeK kvs more)) I2 (by rw [ea]; exact True.intro) sb hq (dk_new hz2 hd (rel2.merge rel) dd'), rfl, q2⟩
theorem mt_popTK {X : Cx} (hu : X.A.units + 1 < cLine) : MtR X "dict.pop" rPopT := mt_popT hu
section
variable [Tbs] {K : PySem.W.Frag} {M M0 G G0 H0 G1 H H1 : Hp} {as as0 : List Addr} {l p : Addr} {σ : L2.St} {te ta tb tk to : TE} {ar : TA} {t : TT} {b : Bool} {ds es : List D} {d d1 : D} {Dn : Ends} {tu tw tz : TS} {g : TG} {i j n : Nat} {a o w : Addr} {kvs : List (List Key × V)} {mx : List (Key × V)} {xs : List V} {ks : List Key} {C dx : Addr} {fs : List (Str × V)} {m : Str} {sp : Sp} {E0' : XK}
/-! ### an entry by a text -/
theorem o_dgetS {key : Str} (h : EvO te σ G a) (hx : G a = some (.dK mx)) (hk : EvD K tk σ G (.str key)) (hv : valV mx (.inr key) = some (.ref w)) : EvO (tDGet te tk) σ G w := fun H e Q q =>
  h H e _ fun G1 H1 s1 => (hk.mono s1.g) H1 s1.i _ fun y G2 H2 s2 r => by
    have e1 := r.str_of
    subst e1
    exact ⟨a, .ref w, rfl, .inl ⟨mx, .inr key, .inl (s2.i _ _ ((s1.g.trans s2.g) _ _ hx)), rfl, hv.symm⟩, q G2 H2 (s1.trans s2)⟩
theorem e_dgetS {key : Str} {v : V} (h : EvO te σ G a) (hx : G a = some (.dK mx)) (hk : EvD K tk σ G (.str key)) (hv : valV mx (.inr key) = some v) (r : Rp K G v d) : EvD K (tDGet te tk) σ G d := fun H e Q q =>
  h H e _ fun G1 H1 s1 => (hk.mono s1.g) H1 s1.i _ fun y G2 H2 s2 r2 => by
    have e1 := r2.str_of
    subst e1
    exact ⟨a, v, rfl, .inl ⟨mx, .inr key, .inl (s2.i _ _ ((s1.g.trans s2.g) _ _ hx)), rfl, hv.symm⟩, q v G2 H2 (s1.trans s2) (r.ex (s1.g.trans s2.g))⟩
/-- what an object that is data tells -/
theorem EvO.dat (h : EvO te σ G a) (r : Rp K G (.ref a) d) : EvD K te σ G d := fun H e Q q => h H e _ fun G1 H1 s => q _ G1 H1 s (r.ex s.g)
/-- a[key] = a new list, a an own dict of mixed values -/
theorem s_dputL {key : Str} (c : Chg G0 M0 H0 as0 G M H as) (hl : a ∈ as) (hm : M a = some (.dK mx)) (h : EvF K te σ (over G M) ds) (hd : D.tupOA ds = true) (hj : σ[j]? = some (some (.ref a))) (hz : mx.length < 1000000)
    (k : ∀ p xs G1 H1, Ex G G1 → M p = none → H p = none → p ≠ a → Chg G0 M0 H0 as0 G1 (upd (upd M p (.lst xs)) a (.dK (putK mx (.inr key) (.ref p)))) H1 (p :: as) → RpA K G1 xs ds → Dn.nx σ H1) : sDPut (tVar j) (tC (.str key)) te Dn σ H :=
  h.own hd c.ii c.o _ fun p xs G1 H1 s1 o1 h1 h2 h3 r => by
    have np : p ≠ a := fun z => by rw [z, c.o.h a _ hm] at h1; cases h1
    have c2 := c.took s1 h1 h2 h3
    have hm2 : upd M p (.lst xs) a = some (.dK mx) := by rw [upd_ne (Ne.symm np)]; exact hm
    exact ⟨_, hj, a, _, rfl, DPut.k (k := .inr key) (c2.o.h _ _ hm2) (by rw [sizeLine_eq]; omega), k p xs G1 _ s1.g (c.ne h1) h1 np (c2.upd (List.mem_cons_of_mem _ hl) hm2) r⟩
theorem q_dputL {key : Str} (c : Chg G0 M0 H0 as0 G M H as) (hl : a ∈ as) (hm : M a = some (.dK mx)) (h : EvF K te σ (over G M) ds) (hd : D.tupOA ds = true) (hj : σ[j]? = some (some (.ref a))) (hz : mx.length < 1000000)
    (k : ∀ p xs G1 H1, Ex G G1 → M p = none → H p = none → p ≠ a → Chg G0 M0 H0 as0 G1 (upd (upd M p (.lst xs)) a (.dK (putK mx (.inr key) (.ref p)))) H1 (p :: as) → RpA K G1 xs ds → tz Dn σ H1) : tSeq (sDPut (tVar j) (tC (.str key)) te) tz Dn σ H := s_dputL (Dn := { Dn with nx := tz Dn }) c hl hm h hd hj hz k
/-! ### d.pop(key, None) -/
theorem dropK_none {α : Type} [DecidableEq α] {kvs : List (α × V)} {k : α} (h : valV kvs k = none) : dropK kvs k = kvs := by
  induction kvs with
  | nil => rfl
  | cons x kvs ih =>
    unfold dropK at ih ⊢
    by_cases e : x.1 = k
    · rw [valV_pos e] at h
      cases h
    · rw [valV_neg e] at h
      rw [List.filter_cons_of_pos (by rw [decide_eq_true_eq]; exact e), ih h]
theorem s_popC {d2 : D} (c : Chg G0 M0 H0 as0 G M H as) (hl : l ∈ as) (hm : M l = some (.dT kvs)) (ho : EvO ta σ (over G M) l) (hk : EvD K tb σ (over G M) d2) (hkd : d2 = .tup (ks.map kD))
    (k : ∀ G1 H1, Ex G G1 → Chg G0 M0 H0 as0 G1 (upd M l (.dT (dropK kvs ks))) H1 as → Dn.nx σ H1) : tDrop (tBM K "dict" rPopT ta (tCons tb (tCons (tC .non) tNil))) Dn σ H :=
  ho H (c.o.ex c.ii) _ fun G1 H1 s1 => ⟨Or.inr (Or.inr (Or.inl ⟨rfl, .inr ⟨kvs, s1.i _ _ (s1.g _ _ (over_some hm))⟩⟩)), (hk.mono s1.g) H1 s1.i _ fun y G3 H3 s3 r3 => by
    subst hkd
    obtain ⟨b, ys, rfl, hb, hys⟩ := r3.tup_of
    have z := hys.keys
    subst z
    obtain ⟨G4, s4, o4, _⟩ := (s1.trans s3).thawM c.o
    have hx := o4.h _ _ hm
    refine ⟨l, kvs, ks, b, .non, rfl, rfl, hx, s3.i _ _ hb, fun v hv => ?_, fun hv => ?_⟩
    · exact k G4 _ s4.g ((c.then s4).upd hl hm)
    · have c1 := (c.then s4).upd (w := .dT (dropK kvs ks)) hl hm
      have e : upd H3 l (.dT (dropK kvs ks)) = H3 := by
        rw [dropK_none hv]
        funext x
        by_cases zz : x = l
        · subst zz; rw [upd_same, hx]
        · rw [upd_ne zz]
      rw [e] at c1
      exact k G4 H3 s4.g c1⟩
theorem q_popC {d2 : D} (c : Chg G0 M0 H0 as0 G M H as) (hl : l ∈ as) (hm : M l = some (.dT kvs)) (ho : EvO ta σ (over G M) l) (hk : EvD K tb σ (over G M) d2) (hkd : d2 = .tup (ks.map kD))
    (k : ∀ G1 H1, Ex G G1 → Chg G0 M0 H0 as0 G1 (upd M l (.dT (dropK kvs ks))) H1 as → tz Dn σ H1) : tSeq (tDrop (tBM K "dict" rPopT ta (tCons tb (tCons (tC .non) tNil)))) tz Dn σ H := s_popC (Dn := { Dn with nx := tz Dn }) c hl hm ho hk hkd k
/-! ### loops -/
/-- for .. in enumerate(l), l an own list that stays as it is meanwhile -/
theorem s_forEM {Ed : Nat → List D} {js : List Nat} (c : Chg G0 M0 H0 as0 G M H as) (ho : EvO te σ (over G M) l) (hm : M l = some (.lst xs)) (rx : RpA K G xs ds) (hg : ∀ i, i < ds.length → EvG K g (.tup [.int i, nth ds i]) js (Ed i))
    (Pv : Nat → L2.St → Hp → Hp → Hp → List Addr → Prop)
    (h0 : ∀ G1 H1, Ex G G1 → Chg G0 M0 H0 as0 G1 M H1 as → Pv 0 σ G1 M H1 as)
    (hs : ∀ i, i < ds.length → ∀ σ' G' M' H' as', Ex G G' → Chg G0 M0 H0 as0 G' M' H' as' → M' l = some (.lst xs) → (∀ G1 H1, Step G' H' G1 H1 → Pv i σ' G1 M' H1 as') → ∀ G2 H2 us, Step G' H' G2 H2 → RpA K G2 us (Ed i) →
      tu { Dn with nx := fun σ2 H3 => ∃ G3 M3 as3, Ex G G3 ∧ Chg G0 M0 H0 as0 G3 M3 H3 as3 ∧ M3 l = some (.lst xs) ∧ ∀ G4 H4, Step G3 H3 G4 H4 → Pv (i + 1) σ2 G4 M3 H4 as3, ct := fun σ2 H3 => ∃ G3 M3 as3, Ex G G3 ∧ Chg G0 M0 H0 as0 G3 M3 H3 as3 ∧ M3 l = some (.lst xs) ∧ ∀ G4 H4, Step G3 H3 G4 H4 → Pv (i + 1) σ2 G4 M3 H4 as3, bk := Dn.nx } (setAll σ' js us) H2)
    (hd : ∀ σ' G' M' H' as', Ex G G' → Chg G0 M0 H0 as0 G' M' H' as' → M' l = some (.lst xs) → Pv ds.length σ' G' M' H' as' → Dn.nx σ' H') : tFor (iEn K (tCons te tNil)) g tu Dn σ H :=
  .inl (ho.own c _ fun G1 H1 e1 c1 => by
    refine ⟨l, xs, rfl, .of (c1.o.h _ _ hm), ?_⟩
    refine ⟨fun i m σ' H' => m = ds.length - i ∧ i ≤ ds.length ∧ ∃ G' M' as', Ex G G' ∧ Chg G0 M0 H0 as0 G' M' H' as' ∧ M' l = some (.lst xs) ∧ ∀ G1 H1, Step G' H' G1 H1 → Pv i σ' G1 M' H1 as', ⟨ds.length, by omega, Nat.zero_le _, G1, M, as, e1, c1, hm, fun G2 H2 s2 => h0 G2 H2 (e1.trans s2.g) (c1.then s2)⟩, ?_⟩
    rintro i m σ' H' ⟨rfl, hi', G', M', as', e', c', hm', pv⟩
    have hx' := c'.o.h _ _ hm'
    by_cases hlt : i < ds.length
    · refine .inr ⟨⟨xs, xs[i]'(by rw [rx.len]; exact hlt), .of hx', by simp [rx.len, hlt]⟩, _, fun σ2 H3 q => ⟨ds.length - (i + 1), by omega, rfl, hlt, q⟩, fun x H2 y => ?_⟩
      obtain ⟨T, x, rfl, hT, rfl, y⟩ := y
      have hxi := y xs (.of hx')
      obtain ⟨d, hd, rd⟩ := rx.get hxi
      have s2 := Step.new (o := .tup [.int (i : Nat), x]) c'.ii hT
      refine hg i hlt _ _ _ _ _ s2.i (.tup upd_same (.cons (.int _) (.cons (by rw [nth_of hd]; exact rd.ex (e'.trans s2.g)) .nil))) fun us ru => hs i hlt σ' G' M' H' as' e' c' hm' pv _ _ us s2 ru
    · have z : i = ds.length := by omega
      subst z
      exact .inl ⟨⟨xs, .of hx', by rw [rx.len]; exact Nat.le_refl _⟩, hd σ' G' M' H' as' e' c' hm' (pv G' H' (Step.refl c'.ii))⟩)
theorem q_forEM {Ed : Nat → List D} {js : List Nat} (c : Chg G0 M0 H0 as0 G M H as) (ho : EvO te σ (over G M) l) (hm : M l = some (.lst xs)) (rx : RpA K G xs ds) (hg : ∀ i, i < ds.length → EvG K g (.tup [.int i, nth ds i]) js (Ed i))
    (Pv : Nat → L2.St → Hp → Hp → Hp → List Addr → Prop)
    (h0 : ∀ G1 H1, Ex G G1 → Chg G0 M0 H0 as0 G1 M H1 as → Pv 0 σ G1 M H1 as)
    (hs : ∀ i, i < ds.length → ∀ σ' G' M' H' as', Ex G G' → Chg G0 M0 H0 as0 G' M' H' as' → M' l = some (.lst xs) → (∀ G1 H1, Step G' H' G1 H1 → Pv i σ' G1 M' H1 as') → ∀ G2 H2 us, Step G' H' G2 H2 → RpA K G2 us (Ed i) →
      tu { Dn with nx := fun σ2 H3 => ∃ G3 M3 as3, Ex G G3 ∧ Chg G0 M0 H0 as0 G3 M3 H3 as3 ∧ M3 l = some (.lst xs) ∧ ∀ G4 H4, Step G3 H3 G4 H4 → Pv (i + 1) σ2 G4 M3 H4 as3, ct := fun σ2 H3 => ∃ G3 M3 as3, Ex G G3 ∧ Chg G0 M0 H0 as0 G3 M3 H3 as3 ∧ M3 l = some (.lst xs) ∧ ∀ G4 H4, Step G3 H3 G4 H4 → Pv (i + 1) σ2 G4 M3 H4 as3, bk := tz Dn } (setAll σ' js us) H2)
    (hd : ∀ σ' G' M' H' as', Ex G G' → Chg G0 M0 H0 as0 G' M' H' as' → M' l = some (.lst xs) → Pv ds.length σ' G' M' H' as' → tz Dn σ' H') : tSeq (tFor (iEn K (tCons te tNil)) g tu) tz Dn σ H := s_forEM (Dn := { Dn with nx := tz Dn }) c ho hm rx hg Pv h0 hs hd
/-- a range whose end is read from own objects -/
theorem s_rngM (c : Chg G0 M0 H0 as0 G M H as) (h : EvD K te σ (over G M) (.int n)) (k : ∀ G1 H1, Ex G G1 → Chg G0 M0 H0 as0 G1 M H1 as → tFor (iRng1 (tCons (tC (.int (n : Nat))) tNil)) g tu Dn σ H1) : tFor (iRng1 (tCons te tNil)) g tu Dn σ H :=
  h.chg rfl c _ fun v G1 H1 e1 c1 rp => by
    have z := rp.int_of
    subst z
    exact k G1 H1 e1 c1
theorem q_rngM (c : Chg G0 M0 H0 as0 G M H as) (h : EvD K te σ (over G M) (.int n)) (k : ∀ G1 H1, Ex G G1 → Chg G0 M0 H0 as0 G1 M H1 as → tSeq (tFor (iRng1 (tCons (tC (.int (n : Nat))) tNil)) g tu) tz Dn σ H1) : tSeq (tFor (iRng1 (tCons te tNil)) g tu) tz Dn σ H := s_rngM (Dn := { Dn with nx := tz Dn }) c h k
/-! ### methods of own instances -/
theorem m_callM (c : Chg G0 M0 H0 as0 G M H as) (ho : EvO to σ (over G M) o) (hi : M o = some (.ins C dx fs)) (hl : fs.lookup m = none) (ha : EvAs K ar σ (over G M) ds) (hd : D.tupOA ds = true) (Q : VK)
    (k : ∀ vs G1 H1, Ex G G1 → Chg G0 M0 H0 as0 G1 M H1 as → RpA K G1 vs ds → sp (.ref o :: (vs ++ [])) H1 Q E0') : tMeth C m sp [] E0' to ar σ H Q :=
  ho H (c.o.ex c.ii) _ fun G1 H1 s1 => ⟨o, dx, fs, rfl, s1.i.k _ _ (s1.g.k _ _ (over_some hi) rfl) rfl, hl, (ha.mono s1.g) H1 s1.i _ fun vs G2 H2 s2 r => by
    obtain ⟨G3, s3, o3, tr, _, gM⟩ := (s1.trans s2).thawM c.o
    exact k vs G3 H2 s3.g (c.then s3) (r.off (off_tr c.o tr gM) hd)⟩
/-- a method that only reads -/
theorem f_methR (h : EvO to σ G o) (hi : G o = some (.ins C dx fs)) (hl : fs.lookup m = none) (ha : EvAs K ar σ G ds) (hs : ∀ vs G1 H1 Q, Ex G G1 → Ex G1 H1 → RpA K G1 vs ds → (∀ p xs G2 H2, Step G1 H1 G2 H2 → H1 p = none → G2 p = none → H2 p = some (.lst xs) → RpA K G2 xs es → Q (.ref p) H2) → sp (.ref o :: (vs ++ [])) H1 Q E0') : EvF K (tMeth C m sp [] E0' to ar) σ G es := fun H e Q q =>
  h H e _ fun G1 H1 s1 => ⟨o, dx, fs, rfl, s1.i.k _ _ (s1.g.k _ _ hi rfl) rfl, hl, (ha.mono s1.g) H1 s1.i _ fun vs G2 H2 s2 r => hs vs G2 H2 Q (s1.g.trans s2.g) s2.i r fun p xs G3 H3 s3 h1 h2 h3 h4 => q p xs G3 H3 ((s1.trans s2).trans s3) ((s1.trans s2).pre h1) h2 h3 h4⟩
/-- .. and tells data -/
theorem e_methR (h : EvO to σ G o) (hi : G o = some (.ins C dx fs)) (hl : fs.lookup m = none) (ha : EvAs K ar σ G ds) (hs : ∀ vs G1 H1 Q, Ex G G1 → Ex G1 H1 → RpA K G1 vs ds → (∀ v G2 H2, Step G1 H1 G2 H2 → Rp K G2 v d → Q v H2) → sp (.ref o :: (vs ++ [])) H1 Q E0') : EvD K (tMeth C m sp [] E0' to ar) σ G d := fun H e Q q =>
  h H e _ fun G1 H1 s1 => ⟨o, dx, fs, rfl, s1.i.k _ _ (s1.g.k _ _ hi rfl) rfl, hl, (ha.mono s1.g) H1 s1.i _ fun vs G2 H2 s2 r => hs vs G2 H2 Q (s1.g.trans s2.g) s2.i r fun v G3 H3 s3 h1 => q v G3 H3 ((s1.trans s2).trans s3) h1⟩
/-! ### fields -/
/-- o.f = data of tuples -/
theorem s_fldV {f : Str} (c : Chg G0 M0 H0 as0 G M H as) (hl : o ∈ as) (hm : M o = some (.ins C dx fs)) (h : EvD K te σ (over G M) d) (hd : d.tupO = true) (ho : EvO to σ (over G M) o) (cl : Cls K C) (n : NoAttr K C f) (hz : fs.length < 1000)
    (k : ∀ v G1 H1, Ex G G1 → Chg G0 M0 H0 as0 G1 (upd M o (.ins C dx (putF f v fs))) H1 as → Rp K G1 v d → Dn.nx σ H1) : sFld K to te f Dn σ H :=
  h H (c.o.ex c.ii) _ fun v G1 H1 s1 r1 => (ho.mono s1.g) H1 s1.i _ fun G2 H2 s2 => by
    obtain ⟨G4, s4, o4, tr, _, gM⟩ := (s1.trans s2).thawM c.o
    exact ⟨o, C, dx, fs, rfl, o4.h _ _ hm, cl, n, hz, k v G4 _ s4.g ((c.then s4).upd hl hm) ((r1.ex s2.g).off (off_tr c.o tr gM) hd)⟩
theorem q_fldV {f : Str} (c : Chg G0 M0 H0 as0 G M H as) (hl : o ∈ as) (hm : M o = some (.ins C dx fs)) (h : EvD K te σ (over G M) d) (hd : d.tupO = true) (ho : EvO to σ (over G M) o) (cl : Cls K C) (n : NoAttr K C f) (hz : fs.length < 1000)
    (k : ∀ v G1 H1, Ex G G1 → Chg G0 M0 H0 as0 G1 (upd M o (.ins C dx (putF f v fs))) H1 as → Rp K G1 v d → tz Dn σ H1) : tSeq (sFld K to te f) tz Dn σ H := s_fldV (Dn := { Dn with nx := tz Dn }) c hl hm h hd ho cl n hz k
/-- o.f = {}, o in slot j -/
theorem q_fldT {f : Str} (c : Chg G0 M0 H0 as0 G M H as) (hl : o ∈ as) (hm : M o = some (.ins C dx fs)) (hj : σ[j]? = some (some (.ref o))) (cl : Cls K C) (n : NoAttr K C f) (hz : fs.length < 1000)
    (k : ∀ p H1, M p = none → H p = none → p ≠ o → Chg G0 M0 H0 as0 G (upd (upd M p (.dT [])) o (.ins C dx (putF f (.ref p) fs))) H1 (p :: as) → tz Dn σ H1) : tSeq (sFld K (tVar j) tDNewT f) tz Dn σ H := fun p hp => by
  have np : p ≠ o := fun z => by rw [z, c.o.h o _ hm] at hp; cases hp
  have c2 := c.new (w := .dT []) hp
  have hm2 : upd M p (.dT []) o = some (.ins C dx fs) := by rw [upd_ne (Ne.symm np)]; exact hm
  exact ⟨_, hj, o, C, dx, fs, rfl, c2.o.h _ _ hm2, cl, n, hz, k p _ (c.ne hp) hp np (c2.upd (List.mem_cons_of_mem _ hl) hm2)⟩
theorem Chg.less (c : Chg G0 M0 H0 as0 G M H as) {as1 : List Addr} (h : ∀ b ∈ as1, b ∈ as) : Chg G0 M0 H0 as0 G M H as1 := ⟨c.s, c.o, c.o0, c.d, c.f, fun b hb => c.n b (h b hb)⟩
/-! ### draws -/
variable {R : D → Prop} {Rs : List D → Prop}
theorem qr_asgC (c : Chg G0 M0 H0 as0 G M H as) (hp : p ∈ as) (hm : DiceM M p) (h : EvR K p te σ (over G (delM M p)) R) (hf : ∀ d, R d → d.tupO = true)
    (k : ∀ v d G1 H1 M1, Ex G G1 → Chg G0 M0 H0 as0 G1 M1 H1 as → DiceM M1 p → (∀ b, b ≠ p → M1 b = M b) → R d → Rp K G1 v d → tz Dn (σ.set i (some v)) H1) : tSeq (tAsg te (gName i)) tz Dn σ H := h.chg c hp hm hf _ k
theorem qrf_asgC (c : Chg G0 M0 H0 as0 G M H as) (hp : p ∈ as) (hm : DiceM M p) (h : EvRF K p te σ (over G (delM M p)) Rs) (hf : ∀ ds, Rs ds → D.tupOA ds = true)
    (k : ∀ v ds G1 H1 M1, Ex G G1 → Chg G0 M0 H0 as0 G1 M1 H1 as → DiceM M1 p → (∀ b, b ≠ p → M1 b = M b) → Rs ds → Rp K G1 v (.lst ds) → tz Dn (σ.set i (some v)) H1) : tSeq (tAsg te (gName i)) tz Dn σ H := h.chg c hp hm hf _ k
theorem qr_asgTC (c : Chg G0 M0 H0 as0 G M H as) (hp : p ∈ as) (hm : DiceM M p) (h : EvR K p te σ (over G (delM M p)) R) (hf : ∀ d, R d → d.tupO = true)
    (k : ∀ v d G1 H1 M1, Ex G G1 → Chg G0 M0 H0 as0 G1 M1 H1 as → DiceM M1 p → (∀ b, b ≠ p → M1 b = M b) → R d → Rp K G1 v d → g v σ H1 (tz Dn)) : tSeq (tAsg te g) tz Dn σ H := h.chg c hp hm hf _ k
/-- a range whose end is drawn -/
theorem s_rngRC {lo hi : Nat} (c : Chg G0 M0 H0 as0 G M H as) (hp : p ∈ as) (hm : DiceM M p) (h : EvR K p te σ (over G (delM M p)) (Btw lo hi))
    (k : ∀ r G1 H1 M1, lo ≤ r → r ≤ hi → Ex G G1 → Chg G0 M0 H0 as0 G1 M1 H1 as → DiceM M1 p → (∀ b, b ≠ p → M1 b = M b) → tFor (iRng1 (tCons (tC (.int (r : Nat))) tNil)) g tu Dn σ H1) : tFor (iRng1 (tCons te tNil)) g tu Dn σ H :=
  h.chg c hp hm (fun d ⟨r, e, _⟩ => by rw [e]; rfl) _ fun v d G1 H1 M1 e1 c1 dm hM ⟨r, e2, h1, h2⟩ rp => by
    subst e2
    have z := rp.int_of
    subst z
    exact k r G1 H1 M1 h1 h2 e1 c1 dm hM
theorem q_rngRC {lo hi : Nat} (c : Chg G0 M0 H0 as0 G M H as) (hp : p ∈ as) (hm : DiceM M p) (h : EvR K p te σ (over G (delM M p)) (Btw lo hi))
    (k : ∀ r G1 H1 M1, lo ≤ r → r ≤ hi → Ex G G1 → Chg G0 M0 H0 as0 G1 M1 H1 as → DiceM M1 p → (∀ b, b ≠ p → M1 b = M b) → tSeq (tFor (iRng1 (tCons (tC (.int (r : Nat))) tNil)) g tu) tz Dn σ H1) : tSeq (tFor (iRng1 (tCons te tNil)) g tu) tz Dn σ H := s_rngRC (Dn := { Dn with nx := tz Dn }) c hp hm h k
theorem r_int1b (h : EvR K p te σ G IsBl) : EvR K p (tCB (fun xs H Q => (∃ i, xs = [.int i] ∧ Q (.int i) H) ∨ ∃ k, xs = [.bl k] ∧ Q (.int (if k then 1 else 0)) H) (tCons te tNil)) σ G (Btw 0 1) := fun H e g dc Q q =>
  h H e g dc _ fun v d G1 H1 s1 g1 d1 ⟨b, hb⟩ rp => by
    subst hb
    refine .inr ⟨b, by rw [rp.bl_of], ?_⟩
    cases b
    · exact q _ (.int ((0 : Nat) : Int)) G1 H1 s1 g1 d1 ⟨0, rfl, by omega, by omega⟩ (.int _)
    · exact q _ (.int ((1 : Nat) : Int)) G1 H1 s1 g1 d1 ⟨1, rfl, by omega, by omega⟩ (.int _)
theorem r_mul1 {lo hi : Nat} (ha : EvR K p ta σ G (Btw lo hi)) (hb : EvR K p tb σ G (Btw 0 1)) (hh : hi ≤ 1000000) : EvR K p (tOp rMulA ta tb) σ G (Btw 0 hi) :=
  r_op ha hb fun x y d1 d2 G1 H1 Q e1 e2 r1 r2 rp1 rp2 q => by
    obtain ⟨i, rfl, h1, h2⟩ := r1
    obtain ⟨j, rfl, h3, h4⟩ := r2
    have hj : j = 0 ∨ j = 1 := by omega
    refine .inl ⟨i, j, rp1.int_of, rp2.int_of, .inl ⟨by omega, by omega⟩, ?_⟩
    rcases hj with rfl | rfl
    · show Q (.int ((i : Int) * ((0 : Nat) : Int))) H1
      rw [show (i : Int) * ((0 : Nat) : Int) = ((0 : Nat) : Int) by simp]
      exact q _ (.int ((0 : Nat) : Int)) ⟨0, rfl, by omega, by omega⟩ (.int _)
    · show Q (.int ((i : Int) * ((1 : Nat) : Int))) H1
      rw [show (i : Int) * ((1 : Nat) : Int) = ((i : Nat) : Int) by simp]
      exact q _ (.int ((i : Nat) : Int)) ⟨i, rfl, by omega, by omega⟩ (.int _)
theorem r_eqI1 {a1 b1 a2 b2 : Nat} (ha : EvR K p ta σ G (Btw a1 b1)) (hb : EvR K p tb σ G (Btw a2 b2)) : EvR K p (tOp (rEqA K) ta tb) σ G IsBl :=
  r_op ha hb fun x y d1 d2 G1 H1 Q e1 e2 r1 r2 rp1 rp2 q => by
    obtain ⟨i, rfl, _⟩ := r1
    obtain ⟨j, rfl, _⟩ := r2
    have z1 := rp1.int_of
    have z2 := rp2.int_of
    subst z1 z2
    exact .inl ⟨rfl, q _ (.bl _) ⟨_, rfl⟩ (.bl _)⟩
/-- for x in l, l an own list that stays as it is meanwhile -/
theorem s_forLM (c : Chg G0 M0 H0 as0 G M H as) (ho : EvO te σ (over G M) l) (hm : M l = some (.lst xs))
    (Pv : Nat → L2.St → Hp → Hp → Hp → List Addr → Prop)
    (h0 : ∀ G1 H1, Ex G G1 → Chg G0 M0 H0 as0 G1 M H1 as → Pv 0 σ G1 M H1 as)
    (hs : ∀ i x, xs[i]? = some x → ∀ σ' G' M' H' as', Ex G G' → Chg G0 M0 H0 as0 G' M' H' as' → M' l = some (.lst xs) → Pv i σ' G' M' H' as' →
      tu { Dn with nx := fun σ2 H3 => ∃ G3 M3 as3, Ex G G3 ∧ Chg G0 M0 H0 as0 G3 M3 H3 as3 ∧ M3 l = some (.lst xs) ∧ Pv (i + 1) σ2 G3 M3 H3 as3, ct := fun σ2 H3 => ∃ G3 M3 as3, Ex G G3 ∧ Chg G0 M0 H0 as0 G3 M3 H3 as3 ∧ M3 l = some (.lst xs) ∧ Pv (i + 1) σ2 G3 M3 H3 as3, bk := Dn.nx } (σ'.set j (some x)) H')
    (hd : ∀ σ' G' M' H' as', Ex G G' → Chg G0 M0 H0 as0 G' M' H' as' → M' l = some (.lst xs) → Pv xs.length σ' G' M' H' as' → Dn.nx σ' H') : tFor (iSeq K te) (gName j) tu Dn σ H :=
  .inl (ho.own c _ fun G1 H1 e1 c1 => by
    refine ⟨l, rfl, ⟨xs, .of (c1.o.h _ _ hm)⟩, ?_⟩
    refine ⟨fun i m σ' H' => m = xs.length - i ∧ i ≤ xs.length ∧ ∃ G' M' as', Ex G G' ∧ Chg G0 M0 H0 as0 G' M' H' as' ∧ M' l = some (.lst xs) ∧ Pv i σ' G' M' H' as', ⟨xs.length, by omega, Nat.zero_le _, G1, M, as, e1, c1, hm, h0 G1 H1 e1 c1⟩, ?_⟩
    rintro i m σ' H' ⟨rfl, hi', G', M', as', e', c', hm', pv⟩
    have hx' := c'.o.h _ _ hm'
    by_cases hlt : i < xs.length
    · refine .inr ⟨⟨xs, xs[i], .of hx', by simp [hlt]⟩, _, fun σ2 H3 q => ⟨xs.length - (i + 1), by omega, rfl, hlt, q⟩, fun x H2 y => ?_⟩
      obtain ⟨rfl, y⟩ := y
      exact hs i x (y xs (.of hx')) σ' G' M' _ as' e' c' hm' pv
    · have z : i = xs.length := by omega
      subst z
      exact .inl ⟨⟨xs, .of hx', Nat.le_refl _⟩, hd σ' G' M' H' as' e' c' hm' pv⟩)
end
end J

/-! Tables of the module; comprehensions over drawn ranges; if-expressions with slices. -/
namespace J
open PySem PySem.Spec PyProof.Rows L2 Evl
/-- at a: a written dict, texts to whole numbers -/
def KTab (K : PySem.W.Frag) (w : World) (a : Addr) (kvs : List (Str × Int)) : Prop := ∃ es n, KDict K w a es n ∧ ∀ q ∈ kvs, ∃ u, PySem.W.nsIn K a q.1 = some (some u) ∧ RelV (.int q.2) u
def rNotInKD (K : PySem.W.Frag) (w : World) : R2 := fun x y H Q => ∃ a kvs q, y = .ref a ∧ KTab K w a kvs ∧ q ∈ kvs ∧ x = .str q.1 ∧ Q (.bl false) H
theorem op_ninKD {X : Cx} (K : PySem.W.Frag) (w : World) (h : X.K = K) (h2 : X.w = w) : OpR X (compareOp .NotIn) (rNotInKD K w) := by
  subst h h2
  intro pins s σ H x y v u Q I rx ry h
  obtain ⟨a, kvs, q, rfl, ⟨es, n, D, hk⟩, hq, rfl, k⟩ := h
  obtain ⟨t, rfl⟩ := rx
  cases ry
  obtain ⟨u, hu, _⟩ := hk q hq
  refine wpAny_notIn_of (PySem.strKind_is X.prog X.w q.1 t) D.low (PySem.W.mapOf_K (prog := X.prog) I.kIn D.at_ D.lit) ?_
  rw [PySem.W.find_K D.at_ hu]
  exact ⟨.bl false, H, I.tok _, rfl, k⟩
theorem ix_kdK {X : Cx} (K : PySem.W.Frag) (w : World) (h : X.K = K) (h2 : X.w = w) : IxR X (rIxD K w) := by
  subst h h2
  exact ix_kdict
section
variable [Tbs] {K : PySem.W.Frag} {w : World} {G G0 H0 G1 H H1 : Hp} {σ : L2.St} {te tb te0 ta tx ty : TE} {ds : List D} {Dn : Ends} {tz : TS} {g gg : TG} {p a : Addr} {Rs : List D → Prop} {wi : TI} {n : Nat} {Y : Nat → D} {js vs : List Nat} {tt : TT} {d : D} {b : Bool}
theorem e_ninKD {kvs : List (Str × Int)} {q : Str × Int} (ha : EvD K ta σ G (.str q.1)) (T : KTab K w a kvs) (hq : q ∈ kvs) : EvD K (tOp (rNotInKD K w) ta (tC (.ref a))) σ G (.bl false) := fun H e Q k =>
  ha H e _ fun v G1 H1 s1 r1 => by
    have z := r1.str_of
    subst z
    exact ⟨a, kvs, q, rfl, T, hq, rfl, k _ G1 H1 s1 (.bl false)⟩
theorem e_ixKD {kvs : List (Str × Int)} {q : Str × Int} (ha : EvD K ta σ G (.str q.1)) (T : KTab K w a kvs) (hq : q ∈ kvs) : EvD K (tOp (rIxD K w) (tC (.ref a)) ta) σ G (.int q.2) := fun H e Q k =>
  ha H e _ fun v G1 H1 s1 r1 => by
    have z := r1.str_of
    subst z
    obtain ⟨es, n, D, hk⟩ := T
    obtain ⟨u, hu, ru⟩ := hk q hq
    exact ⟨a, q.1, .int q.2, rfl, rfl, ⟨es, n, u, D.at_, D.lit, hu, ru⟩, k _ G1 H1 s1 (.int _)⟩
theorem rf_lcD {lo hi : Nat} (h : EvR K p te0 σ G (Btw lo hi)) (k : ∀ n : Nat, lo ≤ n → n ≤ hi → ∀ G1, Ex G G1 → EvRF K p (tLc (iRng1 (tCons (tC (.int (n : Nat))) tNil)) g tt te vs) σ G1 Rs) : EvRF K p (tLc (iRng1 (tCons te0 tNil)) g tt te vs) σ G Rs := fun H e gp dc Q q =>
  h H e gp dc _ fun v d G1 H1 s1 g1 d1 ⟨r, hd, h1, h2⟩ rp => by
    subst hd
    have z := rp.int_of
    subst z
    have S1 : Sd p G H G1 H1 := ⟨s1, g1, d1⟩
    exact k r h1 h2 G1 s1.g H1 s1.i g1 d1 Q fun x xs ds G2 H2 s2 q1 q2 q3 q4 q5 => q x xs ds G2 H2 (S1.trans s2) (S1.pre q1 (d1.ne q1)) q2 q3 q4 q5
end
end J

/-! l.pop(0) of an own list; a drawn value or another. -/
namespace J
open PySem PySem.Spec PyProof.Rows L2 Evl
section
variable [Tbs] {K : PySem.W.Frag} {M M0 G G0 H0 G1 H H1 : Hp} {as as0 : List Addr} {l p : Addr} {σ : L2.St} {te ta tb : TE} {t : TT} {b : Bool} {y : V} {xs : List V} {Dn : Ends} {tz : TS} {i : Nat} {R : D → Prop}
theorem e_popM (c : Chg G0 M0 H0 as0 G M H as) (hl : l ∈ as) (hm : M l = some (.lst (y :: xs))) (ho : EvO ta σ (over G M) l) (Q : VK) (k : ∀ G1 H1, Ex G G1 → Chg G0 M0 H0 as0 G1 (upd M l (.lst xs)) H1 as → Q y H1) : tBM K "list" rPopAt ta (tCons (tC (.int 0)) tNil) σ H Q :=
  ho H (c.o.ex c.ii) _ fun G1 H1 s1 => ⟨Or.inl ⟨rfl, _, .of (s1.i _ _ (s1.g _ _ (over_some hm)))⟩, by
    obtain ⟨G3, s3, o3, tr, _, gM⟩ := s1.thawM c.o
    have hx : seqIndex? 0 (y :: xs).length = some 0 := (ixN_seq (n := (y :: xs).length) (i := 0) (j := 0) (by unfold ixN; rw [if_pos (by decide), if_pos (by rw [List.length_cons]; omega)]; rfl)).1
    exact ⟨l, y :: xs, 0, 0, y, rfl, rfl, o3.h _ _ hm, by decide, by decide, hx, rfl, k G3 _ s3.g ((c.then s3).upd hl hm)⟩⟩
theorem q_popM (c : Chg G0 M0 H0 as0 G M H as) (hl : l ∈ as) (hm : M l = some (.lst (y :: xs))) (ho : EvO ta σ (over G M) l) (k : ∀ G1 H1, Ex G G1 → Chg G0 M0 H0 as0 G1 (upd M l (.lst xs)) H1 as → tz Dn (σ.set i (some y)) H1) : tSeq (tAsg (tBM K "list" rPopAt ta (tCons (tC (.int 0)) tNil)) (gName i)) tz Dn σ H := e_popM c hl hm ho (fun x H1 => gName i x σ H1 (tz Dn)) k
theorem q_asgNew {ds : List D} (c : Chg G0 M0 H0 as0 G M H as) (h : EvF K te σ (over G M) ds) (hd : D.tupOA ds = true) (k : ∀ q xs G1 H1, Ex G G1 → H q = none → Chg G0 M0 H0 as0 G1 (upd M q (.lst xs)) H1 (q :: as) → RpA K G1 xs ds → tz Dn (σ.set i (some (.ref q))) H1) : tSeq (tAsg te (gName i)) tz Dn σ H :=
  h.own hd c.ii c.o _ fun q xs G1 H1 s o1 h1 h2 h3 r => k q xs G1 H1 s.g h1 (c.took s h1 h2 h3) r
theorem r_if (h : EvB t σ G b) (h1 : b = true → EvR K p ta σ G R) (h2 : b = false → EvR K p tb σ G R) : EvR K p (tIf t ta tb) σ G R := fun H e g dc Q q => h H e _ fun G1 H1 s1 => by
  obtain ⟨s2, g2, d2⟩ := s1.toR g dc
  cases b with
  | true => exact ((h1 rfl).mono s1.g) H1 s1.i g2 d2 Q fun v d G3 H3 s3 g3 d3 r rp => q v d G3 H3 (s2.transR s3 d2) g3 d3 r rp
  | false => exact ((h2 rfl).mono s1.g) H1 s1.i g2 d2 Q fun v d G3 H3 s3 g3 d3 r rp => q v d G3 H3 (s2.transR s3 d2) g3 d3 r rp
end
end J

/-! Texts: join, split, numbers, signs; tables of the module with any values. -/
namespace J
open PySem PySem.Spec PyProof.Rows L2 Evl
/-- at a: a written dict, texts to values -/
def KTabV (K : PySem.W.Frag) (w : World) (a : Addr) (kvs : List (Str × V)) : Prop := ∃ es n, KDict K w a es n ∧ ∀ q ∈ kvs, ∃ u, PySem.W.nsIn K a q.1 = some (some u) ∧ RelV q.2 u
def rNotInKV (K : PySem.W.Frag) (w : World) : R2 := fun x y H Q => ∃ a kvs q, y = .ref a ∧ KTabV K w a kvs ∧ q ∈ kvs ∧ x = .str q.1 ∧ Q (.bl false) H
theorem op_ninKV {X : Cx} (K : PySem.W.Frag) (w : World) (h : X.K = K) (h2 : X.w = w) : OpR X (compareOp .NotIn) (rNotInKV K w) := by
  subst h h2
  intro pins s σ H x y v u Q I rx ry h
  obtain ⟨a, kvs, q, rfl, ⟨es, n, D, hk⟩, hq, rfl, k⟩ := h
  obtain ⟨t, rfl⟩ := rx
  cases ry
  obtain ⟨u, hu, _⟩ := hk q hq
  refine wpAny_notIn_of (PySem.strKind_is X.prog X.w q.1 t) D.low (PySem.W.mapOf_K (prog := X.prog) I.kIn D.at_ D.lit) ?_
  rw [PySem.W.find_K D.at_ hu]
  exact ⟨.bl false, H, I.tok _, rfl, k⟩
def rJoin (K : PySem.W.Frag) : V → List V → Hp → VK → Prop := fun x xs H Q => ∃ a p, ∃ ys : List Str, x = .str a ∧ xs = [.ref p] ∧ (SqL K H p (ys.map V.str) ∨ SqT K H p (ys.map V.str)) ∧ (ys.map (·.length)).sum + ys.length * a.length ≤ 16777216 ∧ Q (.str (Txt.join a ys)) H
def rSplit : V → List V → Hp → VK → Prop := fun x xs H Q => ∃ a b, x = .str a ∧ xs = [.str b] ∧ (b.length == 0) = false ∧ a.length + 2 ≤ sizeLine ∧ rNewStrs (Txt.split a b) H Q
section
variable {X : Cx} {o e : Expr} {to te : TE} {apos pos : Pos}
theorem pe_joinK (K : PySem.W.Frag) (hK : X.K = K) (ho : PE X o to) (he : PE X e te) (hs : starEach [e] X.env = [(false, eval e X.env)] := by rfl) (hbase : attributeBase o "join" X.env (eval o X.env) = eval o X.env := by rfl) (hline : (apos.endLine == pos.line) = true := by rfl) :
    PE X (.Call (.Attribute o "join" apos) [e] [] pos) (tM1 (rJoin K) to te) := by
  subst hK
  exact pe_join ho he hs hbase hline
theorem pe_splitK (ho : PE X o to) (he : PE X e te) (hs : starEach [e] X.env = [(false, eval e X.env)] := by rfl) (hbase : attributeBase o "split" X.env (eval o X.env) = eval o X.env := by rfl) (hline : (apos.endLine == pos.line) = true := by rfl) :
    PE X (.Call (.Attribute o "split" apos) [e] [] pos) (tM1 rSplit to te) := pe_split ho he hs hbase hline
end
section
variable [Tbs] {K : PySem.W.Frag} {w : World} {G G0 H0 G1 H H1 : Hp} {σ : L2.St} {to te tb te0 ta tx ty : TE} {ds : List D} {Dn : Ends} {tz : TS} {g gg : TG} {p a : Addr} {Rs : List D → Prop} {wi : TI} {n : Nat} {Y : Nat → D} {js vs : List Nat} {tt : TT} {d : D} {b : Bool}
theorem e_ninKV {kvs : List (Str × V)} {q : Str × V} (ha : EvD K ta σ G (.str q.1)) (T : KTabV K w a kvs) (hq : q ∈ kvs) : EvD K (tOp (rNotInKV K w) ta (tC (.ref a))) σ G (.bl false) := fun H e Q k =>
  ha H e _ fun v G1 H1 s1 r1 => by
    have z := r1.str_of
    subst z
    exact ⟨a, kvs, q, rfl, T, hq, rfl, k _ G1 H1 s1 (.bl false)⟩
theorem e_ixKV {kvs : List (Str × V)} {x : Str} {b : Bool} (ha : EvD K ta σ G (.str x)) (T : KTabV K w a kvs) (hq : (x, V.bl b) ∈ kvs) : EvD K (tOp (rIxD K w) (tC (.ref a)) ta) σ G (.bl b) := fun H e Q k =>
  ha H e _ fun v G1 H1 s1 r1 => by
    have z := r1.str_of
    subst z
    obtain ⟨es, n, D, hk⟩ := T
    obtain ⟨u, hu, ru⟩ := hk _ hq
    exact ⟨a, x, .bl b, rfl, rfl, ⟨es, n, u, D.at_, D.lit, hu, ru⟩, k _ G1 H1 s1 (.bl _)⟩
theorem strs_of : ∀ {ys : List Str} {xs : List V}, RpA K H xs (ys.map D.str) → xs = ys.map V.str
  | [], _, h => by cases h; rfl
  | y :: ys, _, h => by
    cases h with
    | cons r1 r2 => rw [r1.str_of, strs_of r2]; rfl
theorem of_strs : ∀ {ys : List Str}, RpA K H (ys.map V.str) (ys.map D.str)
  | [] => .nil
  | y :: ys => .cons (.str _) of_strs
theorem e_join {a : Str} {ys : List Str} (ho : EvD K to σ G (.str a)) (h : EvD K te σ G (.lst (ys.map D.str))) (hz : (ys.map (·.length)).sum + ys.length * a.length ≤ 16777216) : EvD K (tM1 (rJoin K) to te) σ G (.str (Str.join a ys)) := fun H e Q q =>
  ho H e _ fun x G1 H1 s1 r1 => by
    have z := r1.str_of
    subst z
    refine ⟨⟨a, rfl⟩, (h.mono s1.g) H1 s1.i _ fun y G2 H2 s2 r2 => ?_⟩
    obtain ⟨p, xs, rfl, h1, h2⟩ := r2.lst_of
    have hx := strs_of h2
    subst hx
    refine ⟨a, p, ys, rfl, rfl, .inl (.of (s2.i _ _ h1)), hz, ?_⟩
    rw [TL.join_eq]
    exact q _ G2 H2 (s1.trans s2) (.str _)
theorem f_split {a b : Str} (ho : EvD K to σ G (.str a)) (h : EvD K te σ G (.str b)) (hb : (b.length == 0) = false) (hz : a.length + 2 ≤ sizeLine) : EvF K (tM1 rSplit to te) σ G ((Txt.split a b).map D.str) := fun H e Q q =>
  ho H e _ fun x G1 H1 s1 r1 => by
    have z := r1.str_of
    subst z
    refine ⟨⟨a, rfl⟩, (h.mono s1.g) H1 s1.i _ fun y G2 H2 s2 r2 => ?_⟩
    have z := r2.str_of
    subst z
    exact ⟨a, b, rfl, rfl, hb, hz, fun p hp => q p _ G2 _ ((s1.trans s2).trans (Step.own s2.i hp)) ((s1.trans s2).pre hp) (Step.back s2.i hp) upd_same of_strs⟩
theorem e_intS {a : Str} {n : Int} (h : EvD K te σ G (.str a)) (hn : PySem.intText? a = some n) (hl : a.length ≤ 640) : EvD K (tCB (fun xs H Q => ∃ a n, xs = [.str a] ∧ PySem.intText? a = some n ∧ a.length ≤ 640 ∧ Q (.int n) H) (tCons te tNil)) σ G (.int n) :=
  e_cb (a_one h) fun vs G1 H1 Q e1 e2 r k => by
    obtain ⟨v, rfl, rv⟩ := r.one
    have z := rv.str_of
    subst z
    exact ⟨a, n, rfl, hn, hl, k _ G1 H1 (Step.refl e2) (.int _)⟩
theorem e_strI {i : Int} (h : EvD K te σ G (.int i)) (hl : i.natAbs.log2 < 1920) : EvD K (tCB (fun xs H Q => ∃ i, xs = [.int i] ∧ i.natAbs.log2 < 1920 ∧ Q (.str (toString i)) H) (tCons te tNil)) σ G (.str (PySem.Str.ofString (toString i))) :=
  e_cb (a_one h) fun vs G1 H1 Q e1 e2 r k => by
    obtain ⟨v, rfl, rv⟩ := r.one
    have z := rv.int_of
    subst z
    exact ⟨i, rfl, hl, k _ G1 H1 (Step.refl e2) (.str _)⟩
theorem e_lenS {z : Str} (h : EvD K te σ G (.str z)) (hl : z.length ≤ sizeLine) : EvD K (tCB (fun xs H Q => ∃ z, xs = [.str z] ∧ z.length ≤ sizeLine ∧ Q (.int z.length) H) (tCons te tNil)) σ G (.int z.length) :=
  e_cb (a_one h) fun vs G1 H1 Q e1 e2 r k => by
    obtain ⟨v, rfl, rv⟩ := r.one
    have y := rv.str_of
    subst y
    exact ⟨z, rfl, hl, k _ G1 H1 (Step.refl e2) (.int _)⟩
theorem e_ninSg {c : Nat} {z : Str} (ha : EvD K ta σ G (.str ⟨#[c]⟩)) (hb : EvD K tb σ G (.str z)) : EvD K (tOp (fun x y H Q => ∃ (c : Nat) (z : Str), x = .str ⟨#[c]⟩ ∧ y = .str z ∧ Q (.bl (!decide (c ∈ z.cps.toList))) H) ta tb) σ G (.bl (!decide (c ∈ z.cps.toList))) :=
  e_op ha hb fun x y G1 H1 Q e1 e2 r1 r2 k => ⟨c, z, r1.str_of, r2.str_of, k _ G1 H1 (Step.refl e2) (.bl _)⟩
theorem i_str {x : Str} (h : EvD K te σ G (.str x)) : EvI K (iStr te) σ G x.cps.size (fun i => .str ⟨#[x.cps.getD i 0]⟩) := fun H e R q =>
  h H e _ fun v G1 H1 s1 r1 => ⟨x, r1.str_of, q _ G1 H1 s1
    { goes := fun i H hi _ => hi
      stops := fun H _ => Nat.le_refl _
      yields := fun i G2 H2 y H3 hi e1 e2 ⟨eh, c, hc, ev⟩ => by
        subst eh ev
        refine ⟨G2, Step.refl e2, ?_⟩
        have : x.cps.getD i 0 = c := by
          rw [Array.getD_eq_getD_getElem?, hc]; rfl
        rw [this]
        exact .str _ }⟩
/-- l.clear() -/
theorem s_clearC {M M0 : Hp} {as as0 : List Addr} {l : Addr} {xs : List V} (c : Chg G0 M0 H0 as0 G M H as) (hl : l ∈ as) (hm : M l = some (.lst xs)) (ho : EvO ta σ (over G M) l)
    (k : ∀ G1 H1, Ex G G1 → Chg G0 M0 H0 as0 G1 (upd M l (.lst [])) H1 as → Dn.nx σ H1) : tDrop (tBM K "list" rClear ta tNil) Dn σ H :=
  ho H (c.o.ex c.ii) _ fun G1 H1 s1 => ⟨Or.inl ⟨rfl, xs, .of (s1.i _ _ (s1.g _ _ (over_some hm)))⟩, by
    obtain ⟨G3, s3, o3, tr, _, gM⟩ := s1.thawM c.o
    exact ⟨l, xs, rfl, rfl, o3.h _ _ hm, k G3 _ s3.g ((c.then s3).upd hl hm)⟩⟩
end
end J

namespace J
open PySem L2 Evl
local macro_rules | `(tactic| walk_at "rp") => `(tactic| first | assumption | exact Rp.int _ | exact Rp.bl _ | exact Rp.str _ | exact Rp.non)
local macro_rules | `(tactic| walk_at "at") => `(tactic| first | rfl | assumption)
local macro_rules | `(tactic| walk_at "ev") => `(tactic| first
  | (with_reducible exact e_int) | (with_reducible exact e_bl) | (with_reducible exact e_str) | (with_reducible exact e_non)
  | ((with_reducible refine' e_var ?k1 ?k2); (case k1 => rfl); (case k2 => walk_at "rp"))
  | ((with_reducible refine' e_ix ?k1 ?k2 ?k3); (case k1 => walk_at "ev"); (case k2 => walk_at "ev"); (case k3 => walk_at "at"))
  | ((with_reducible refine' e_addI ?k1 ?k2); (case k1 => walk_at "ev"); (case k2 => walk_at "ev"))
  | ((with_reducible refine' e_sub ?k1 ?k2); (case k1 => walk_at "ev"); (case k2 => walk_at "ev"))
  | ((with_reducible refine' e_lt ?k1 ?k2); (case k1 => walk_at "ev"); (case k2 => walk_at "ev"))
  | ((with_reducible refine' e_le ?k1 ?k2); (case k1 => walk_at "ev"); (case k2 => walk_at "ev"))
  | ((with_reducible refine' e_gt ?k1 ?k2); (case k1 => walk_at "ev"); (case k2 => walk_at "ev"))
  | ((with_reducible refine' e_ge ?k1 ?k2); (case k1 => walk_at "ev"); (case k2 => walk_at "ev"))
  | ((with_reducible refine' e_eq ?k1 ?k2 ?k3); (case k1 => walk_at "ev"); (case k2 => walk_at "ev"); (case k3 => rfl))
  | ((with_reducible refine' e_ne ?k1 ?k2 ?k3); (case k1 => walk_at "ev"); (case k2 => walk_at "ev"); (case k3 => rfl))
  | ((with_reducible refine' e_isi ?k1 ?k2 ?k3); (case k1 => walk_at "ev"); (case k2 => rfl); (case k3 => rfl))
  | ((with_reducible refine' e_len ?k1 ?k2); (case k1 => walk_at "ev"); (case k2 => rfl))
  | ((with_reducible refine' e_not ?k1); (case k1 => walk_at "ev"))
  | ((with_reducible refine' e_tup ?k1 ?k2); (case k1 => walk_at "as"); (case k2 => (show _ ≤ _; decide))))
local macro_rules | `(tactic| walk_at "as") => `(tactic| first
  | (with_reducible exact a_nil)
  | ((with_reducible refine' a_cons ?k1 ?k2); (case k1 => walk_at "ev"); (case k2 => walk_at "as")))
local macro_rules | `(tactic| walk_at "bt") => `(tactic| first
  | ((with_reducible refine' b_test ?k1); (case k1 => walk_at "ev"))
  | ((with_reducible refine' b_B ?k1); (case k1 => walk_at "ev"))
  | ((with_reducible refine' b_not ?k1); (case k1 => walk_at "bt")))
local macro_rules | `(tactic| walk_at "evq") => `(tactic| ((with_reducible refine' EvD.eq ?k1 ?k2); (case k1 => walk_at "ev"); (case k2 => rfl)))
local macro_rules | `(tactic| walk_at "btq") => `(tactic| ((with_reducible refine' EvB.eq ?k1 ?k2); (case k1 => walk_at "bt"); (case k2 => rfl)))
local macro_rules | `(tactic| walk_at "bf") => `(tactic| first
  | ((with_reducible refine' b_orF ?k1 ?k2); (case k1 => walk_at "bf"); (case k2 => walk_at "bf"))
  | ((with_reducible refine' b_notT ?k1); (case k1 => walk_at "btr"))
  | ((with_reducible refine' EvB.eq ?k1 ?k2); (case k1 => walk_at "bt"); (case k2 => first | rfl | assumption | (simp only [Bool.not_eq_false', decide_eq_true_eq, decide_eq_false_iff_not]; omega))))
local macro_rules | `(tactic| walk_at "btr") => `(tactic| first
  | ((with_reducible refine' b_andT ?k1 ?k2); (case k1 => walk_at "btr"); (case k2 => walk_at "btr"))
  | ((with_reducible refine' EvB.eq ?k1 ?k2); (case k1 => walk_at "bt"); (case k2 => first | rfl | assumption | (simp only [Bool.not_eq_true', decide_eq_true_eq, decide_eq_false_iff_not]; omega))))

local macro_rules | `(tactic| walk_at "dr") => `(tactic| first
  | ((with_reducible refine' r_lit ?k1); (case k1 => decide))
  | exact r_pow6
  | ((with_reducible refine' r_min2 ?k1 ?k2); (case k1 => walk_at "dr"); (case k2 => walk_at "dr"))
  | ((with_reducible refine' r_add ?k1 ?k2); (case k1 => walk_at "dr"); (case k2 => walk_at "dr"))
  | ((with_reducible refine' r_off ?k1 ?k2 ?k3 ?k4); (case k1 => rfl); (case k2 => walk_at "dr"); (case k3 => omega); (case k4 => omega))
  | ((with_reducible refine' r_pick ?k1 ?k2 ?k3); (case k1 => walk_at "drs"); (case k2 => exact r_offN rfl e_int (by decide) (by decide)); (case k3 => decide))
  | ((with_reducible refine' r_n ?k1); (case k1 => walk_at "ev")))
local macro_rules | `(tactic| walk_at "drs") => `(tactic| first
  | ((with_reducible refine' pbw_one ?k1); (case k1 => walk_at "dr"))
  | ((with_reducible refine' pbw_cons ?k1 ?k2); (case k1 => walk_at "dr"); (case k2 => walk_at "drs")))
local macro_rules | `(tactic| walk_at "drw") => `(tactic| (refine' r_w ?k1 ?k2 ?k3; (case k1 => walk_at "dr"); (case k2 => omega); (case k3 => omega)))

def top (i : Nat) : Stmt := PySem.Challenge.pw_judgehall_k17_written_and_read.main.body.getD i (.Pass ⟨0, 0, 0, 0⟩)
structure Tx (K : PySem.W.Frag) (mg : Str → Option Value) : Prop where
  n_abs : mg "abs" = none
  n_all : mg "all" = none
  n_bool : mg "bool" = none
  n_enumerate : mg "enumerate" = none
  n_int : mg "int" = none
  n_isinstance : mg "isinstance" = none
  n_len : mg "len" = none
  n_list : mg "list" = none
  n_min : mg "min" = none
  n_range : mg "range" = none
  n_sorted : mg "sorted" = none
  n_str : mg "str" = none
  n_sum : mg "sum" = none
  n_tuple : mg "tuple" = none
  c_RULES : ∃ a, mg "RULES" = some (.ref a) ∧ ∀ H, SqT K H a [V.str (PySem.Str.ofString "first"), V.str (PySem.Str.ofString "best"), V.str (PySem.Str.ofString "groups")]
  c_MOST_TEAMS : ∃ t, mg "MOST_TEAMS" = some (.int 12 t)
  c_MOST_TASKS : ∃ t, mg "MOST_TASKS" = some (.int 6 t)
  c_MOST_GROUPS : ∃ t, mg "MOST_GROUPS" = some (.int 4 t)
  c_MOST_TRIALS : ∃ t, mg "MOST_TRIALS" = some (.int 5 t)
  c_MOST_POINTS : ∃ t, mg "MOST_POINTS" = some (.int 100 t)
  c_MOST_END : ∃ t, mg "MOST_END" = some (.int 300 t)
  c_MOST_TRIES : ∃ t, mg "MOST_TRIES" = some (.int 200 t)
  c_MOST_TIME : ∃ t, mg "MOST_TIME" = some (.int 999 t)
  c_FIGURES : ∃ t, mg "FIGURES" = some (.str (PySem.Str.ofString "0123456789") t)
  k_Reader : Cls K (cA K "Reader")
  n_Reader_head : NoAttr K (cA K "Reader") "head"
  n_Reader_tasks : NoAttr K (cA K "Reader") "tasks"
  n_Reader_offers : NoAttr K (cA K "Reader") "offers"
  n_Reader_said : NoAttr K (cA K "Reader") "said"

section
variable [Tbs] {P : Program} {w : World} {K : PySem.W.Frag} {mg : Str → Option Value} {base : Heap}
abbrev s_is_between : Stmt := top 19
abbrev N_is_between : List Str := ["part", "low", "high"]
abbrev P_is_between : List Str := ["part", "low", "high"]
theorem sc_is_between : FnScope N_is_between P_is_between (defScope s_is_between) := ⟨rfl, rfl, rfl, by decide +kernel, rfl, by decide +kernel, by decide +kernel⟩

def isB : D → Int → Int → Bool
  | .int i, lo, hi => decide (lo ≤ i) && decide (i ≤ hi)
  | _, _, _ => false
def R_is_between (ds : List D) (r : D) : Prop := ∃ d lo hi, ds = [d, .int lo, .int hi] ∧ r = .bl (isB d lo hi)
abbrev sp_is_between (K : PySem.W.Frag) : Sp := spP K R_is_between
theorem ok_is_between {f : Addr} {fd : FuncData} (F : Fun K "is_between" "is_between" s_is_between f fd) (T : Tx K mg) : FnOk P w K mg base CX0 1 f fd P_is_between (sp_is_between K) := by
  refine F.ok sc_is_between (fun vs H Q E h => ?_) (fun cdv A outer s H vs Q E hr h => ?_)
  · obtain ⟨G, ds, r, e, ra, ⟨d, lo, hi, rfl, rfl⟩, q⟩ := h
    exact ra.len
  · obtain ⟨G, ds, r, e, ra, ⟨d, lo, hi, rfl, rfl⟩, q⟩ := h
    obtain ⟨v0, v1, v2, rfl, r0, r1, r2⟩ := ra.three
    refine ⟨_, (pss_one (ps_ret (pe_and (pe_callB (call_isiK' K rfl) (by rfl) T.n_isinstance (by decide +kernel) (pa_cons (pv 0) (pa_cons (pe_ty (n := "int") (by rfl) T.n_int (by decide +kernel)) pa_nil))) (pe_and (pe_not (pe_callB (call_isiK' K rfl) (by rfl) T.n_isinstance (by decide +kernel) (pa_cons (pv 0) (pa_cons (pe_ty (n := "bool") (by rfl) T.n_bool (by decide +kernel)) pa_nil)))) (pe_one (pe_chain op_le op_le (pv 1) (pv 0) (pv 2))))))), ?_⟩
    try dsimp only [cxOf, Cx.nox, Cx.wish]
    refine s_ret (d := .bl (isB d lo hi)) e ?_ q
    cases d with
    | int i =>
      refine (e_and (a := true) (by walk_at "ev") fun _ => e_and (a := true) (by walk_at "evq") fun _ => e_chain (by walk_at "ev") (by walk_at "ev") (fun _ => by walk_at "ev") c_le c_le).eq ?_
      rfl
    | bl b =>
      refine (e_and (a := true) (by walk_at "ev") fun _ => e_and (a := false) (b := true) (by walk_at "evq") fun z => nomatch z).eq ?_
      rfl
    | _ => exact (e_and (a := false) (b := true) (by walk_at "ev") fun z => nomatch z)
theorem e_btw {σ : L2.St} {G : Hp} {ta tb tc : TE} {i lo hi : Int} {E : XK} (ha : EvD K ta σ G (.int i)) (hb : EvD K tb σ G (.int lo)) (hc : EvD K tc σ G (.int hi)) (h1 : lo ≤ i) (h2 : i ≤ hi) : EvD K (tCall (sp_is_between K) [] E (tCons ta (tCons tb (tCons tc tNil)))) σ G (.bl true) :=
  (e_call (a_cons ha (a_cons hb (a_one hc))) ⟨_, _, _, rfl, rfl⟩).bl (by show (decide (lo ≤ i) && decide (i ≤ hi)) = true; rw [decide_eq_true h1, decide_eq_true h2]; rfl)

end

/-! ### contests, tries, verdicts as plain data -/
structure Con where
  rule : Str
  teams : Nat
  fin : Nat
  frozen : Nat
  tasks : List (List (Nat × Nat) × Nat)
def gD (g : Nat × Nat) : D := .tup [.int g.1, .int g.2]
def tkD (t : List (Nat × Nat) × Nat) : D := .tup [.tup (t.1.map gD), .int t.2]
def Con.d (c : Con) : D := .tup [.str c.rule, .int c.teams, .int c.fin, .int c.frozen, .tup (c.tasks.map tkD)]
abbrev sFirst : Str := PySem.Str.ofString "first"
abbrev sBest : Str := PySem.Str.ofString "best"
abbrev sGroups : Str := PySem.Str.ofString "groups"
structure Con.Ok (c : Con) : Prop where
  rule : c.rule = sFirst ∨ c.rule = sBest ∨ c.rule = sGroups
  teams : 2 ≤ c.teams ∧ c.teams ≤ 12
  fin : 1 ≤ c.fin ∧ c.fin ≤ 300
  frozen : c.frozen ≤ c.fin
  many : 1 ≤ c.tasks.length ∧ c.tasks.length ≤ 6
  task : ∀ t ∈ c.tasks, t.2 ≤ c.fin ∧ 1 ≤ t.1.length ∧ t.1.length ≤ 4 ∧ ∀ g ∈ t.1, (1 ≤ g.1 ∧ g.1 ≤ 5) ∧ 1 ≤ g.2 ∧ g.2 ≤ 100
def Con.task (c : Con) (k : Nat) : List (Nat × Nat) × Nat := c.tasks.getD k ([], 0)
abbrev Con.groups (c : Con) (k : Nat) : List (Nat × Nat) := (c.task k).1
abbrev Con.due (c : Con) (k : Nat) : Nat := (c.task k).2
def sizeG (gs : List (Nat × Nat)) : Nat := (gs.map (·.1)).sum
abbrev Con.size (c : Con) (k : Nat) : Nat := sizeG (c.groups k)
theorem Con.task_at {c : Con} {k : Nat} (h : k < c.tasks.length) : c.tasks[k]? = some (c.task k) := by
  unfold Con.task
  rw [List.getD_eq_getElem?_getD, List.getElem?_eq_getElem h]
  rfl
theorem Con.task_ok {c : Con} (o : c.Ok) {k : Nat} (h : k < c.tasks.length) : c.due k ≤ c.fin ∧ 1 ≤ (c.groups k).length ∧ (c.groups k).length ≤ 4 ∧ ∀ g ∈ c.groups k, (1 ≤ g.1 ∧ g.1 ≤ 5) ∧ 1 ≤ g.2 ∧ g.2 ≤ 100 :=
  o.task _ (List.mem_of_getElem? (Con.task_at h))
abbrev Try := Nat × Nat × Nat
def trD (t : Try) : D := .tup [.int t.1, .int t.2.1, .int t.2.2]
def trsD (ts : List Try) : D := .lst (ts.map trD)
structure TrOk (c : Con) (t : Try) : Prop where
  team : t.1 < c.teams
  task : t.2.1 < c.tasks.length
  time : t.2.2 ≤ 999
structure TriesOk (c : Con) (ts : List Try) : Prop where
  len : ts.length ≤ 200
  ok : ∀ t ∈ ts, TrOk c t
  rise : ts.Pairwise fun a b => a.2.2 ≤ b.2.2
def tryAt (ts : List Try) (n : Nat) : Try := ts.getD n (0, 0, 0)
theorem try_at {ts : List Try} {n : Nat} (h : n < ts.length) : ts[n]? = some (tryAt ts n) := by
  unfold tryAt
  rw [List.getD_eq_getElem?_getD, List.getElem?_eq_getElem h]
  rfl
theorem TriesOk.at {c : Con} {ts : List Try} (o : TriesOk c ts) {n : Nat} (h : n < ts.length) : TrOk c (tryAt ts n) := o.ok _ (List.mem_of_getElem? (try_at h))
abbrev Ver := Nat × Nat × Bool
def vrD (v : Ver) : D := .tup [.int v.1, .int v.2.1, .bl v.2.2]
def vrsD (vs : List Ver) : D := .lst (vs.map vrD)
abbrev szOf (c : Con) (ts : List Try) (n : Nat) : Nat := c.size (tryAt ts n).2.1
structure VersOk (c : Con) (ts : List Try) (vs : List Ver) : Prop where
  ok : ∀ v ∈ vs, v.1 < ts.length ∧ v.2.1 < szOf c ts v.1
  once : (vs.map fun v => (v.1, v.2.1)).Nodup
theorem size_le {gs : List (Nat × Nat)} (h : ∀ g ∈ gs, (1 ≤ g.1 ∧ g.1 ≤ 5) ∧ 1 ≤ g.2 ∧ g.2 ≤ 100) : sizeG gs ≤ 5 * gs.length := by
  unfold sizeG
  induction gs with
  | nil => exact Nat.le_refl _
  | cons g gs ih =>
    have h1 := h g List.mem_cons_self
    have h2 := ih fun x hx => h x (List.mem_cons_of_mem _ hx)
    rw [List.map_cons, List.sum_cons, List.length_cons]
    omega

section
variable [Tbs] {P : Program} {w : World} {K : PySem.W.Frag} {mg : Str → Option Value} {base : Heap}
abbrev s_trials_of : Stmt := top 23
abbrev N_trials_of : List Str := ["contest", "task", "many", "points"]
abbrev P_trials_of : List Str := ["contest", "task"]
theorem sc_trials_of : FnScope N_trials_of P_trials_of (defScope s_trials_of) := ⟨rfl, rfl, rfl, by decide +kernel, rfl, by decide +kernel, by decide +kernel⟩

def R_trials_of (ds : List D) (r : D) : Prop := ∃ (c : Con) (k : Nat), ds = [c.d, .int k] ∧ c.Ok ∧ k < c.tasks.length ∧ r = .int (c.size k)
abbrev sp_trials_of (K : PySem.W.Frag) : Sp := spP K R_trials_of
theorem sum_nat (l : List Nat) : (l.map fun n : Nat => (n : Int)).sum = ((l.sum : Nat) : Int) := by
  induction l with
  | nil => rfl
  | cons a l ih => rw [List.map_cons, List.sum_cons, List.sum_cons, ih]; omega
theorem ok_trials_of {f : Addr} {fd : FuncData} (F : Fun K "trials_of" "trials_of" s_trials_of f fd) (T : Tx K mg) : FnOk P w K mg base CX0 1 f fd P_trials_of (sp_trials_of K) := by
  refine F.ok sc_trials_of (fun vs H Q E h => ?_) (fun cdv A outer s H vs Q E hr h => ?_)
  · obtain ⟨G, ds, r, e, ra, ⟨c, k, rfl, oc, hk, rfl⟩, q⟩ := h
    exact ra.len
  · obtain ⟨G, ds, r, e, ra, ⟨c, k, rfl, oc, hk, rfl⟩, q⟩ := h
    obtain ⟨v0, v1, rfl, r0, r1⟩ := ra.two
    have hc := Con.task_at hk
    have ok := Con.task_ok oc hk
    refine ⟨_, (pss_one (ps_ret (pe_callB (cr_sumK K rfl rfl) (by rfl) T.n_sum (by decide +kernel) (pa_cons (pe_lc (own := [("many", 2), ("points", 3)]) (g := gTup K 2 (gCons (gName 2) (gCons (gName 3) gNil))) (tt := tYes) rfl sc_trials_of.nd (pi_seqK K rfl (pe_ix (ix_seqK K rfl) (pe_ix (ix_seqK K rfl) (pe_ix (ix_seqK K rfl) (pv 0) pe_int (fun _ _ => rfl)) (pv 1) (fun _ _ => rfl)) pe_int (fun _ _ => rfl))) (blkOk_by (own := [("many", 2), ("points", 3)]) (N := N_trials_of) (sc := defScope s_trials_of) (by decide +kernel)) (fun _ _ _ _ _ => (pg_tup rfl (pgs_cons (pg_name (i := 2) sc_trials_of.nd rfl (by first | exact Or.inl rfl | exact Or.inr rfl)) (pgs_cons (pg_name (i := 3) sc_trials_of.nd rfl (by first | exact Or.inl rfl | exact Or.inr rfl)) pgs_nil)))) (fun _ _ _ _ _ => pts_nil) (fun _ _ _ _ _ => (pv 2))) pa_nil)))), ?_⟩
    try dsimp only [cxOf, Cx.nox, Cx.wish]
    refine s_ret (d := .int (c.size k)) e ?_ q
    refine EvD.eq (e_sum (ns := (c.groups k).map fun g => (g.1 : Int)) (EvF.toD (f_lcm (xs := c.groups k) (Y := nth ((c.groups k).map gD)) (js := [2, 3]) (fun _ g => [.int g.1, .int g.2]) (fun _ => true) (fun g => .int g.1)
      (i_seqT' (List.length_map _) (e_ix (d1 := tkD (c.task k)) (e_ix (d1 := .tup (c.tasks.map tkD)) (i := k) (by walk_at "ev") (by walk_at "ev") (at_mapT hc)) e_int rfl)) (fun i x hx => by rw [nth_map hx]; exact g_two) (by omega) (fun _ _ _ => rfl) (fun us h => match us, h with | [_, _], _ => rfl)
      (fun _ _ _ _ _ _ _ => b_yes) (fun i x hx _ G1 e1 us ru => ?_))) ?_) ?_
    · obtain ⟨a, b, rfl, ra, rb⟩ := ru.two
      exact e_var rfl ra
    · rw [List.filter_eq_self.mpr (fun _ _ => rfl), List.map_map]
      rfl
    · have h := sum_nat ((c.groups k).map (·.1))
      rw [List.map_map] at h
      exact congrArg D.int h

end

section
variable [Tbs] {P : Program} {w : World} {K : PySem.W.Frag} {mg : Str → Option Value} {base : Heap}
abbrev s_is_group : Stmt := top 20
abbrev N_is_group : List Str := ["group"]
abbrev P_is_group : List Str := ["group"]
theorem sc_is_group : FnScope N_is_group P_is_group (defScope s_is_group) := ⟨rfl, rfl, rfl, by decide +kernel, rfl, by decide +kernel, by decide +kernel⟩

def R_is_group (ds : List D) (r : D) : Prop := ∃ g : Nat × Nat, ds = [gD g] ∧ ((1 ≤ g.1 ∧ g.1 ≤ 5) ∧ 1 ≤ g.2 ∧ g.2 ≤ 100) ∧ r = .bl true
abbrev sp_is_group (K : PySem.W.Frag) : Sp := spP K R_is_group
theorem ok_is_group {f : Addr} {fd : FuncData} (F : Fun K "is_group" "is_group" s_is_group f fd) (T : Tx K mg) (d_is_between : Dk P w K mg base 1 "is_between" P_is_between (sp_is_between K)) : FnOk P w K mg base CX0 2 f fd P_is_group (sp_is_group K) := by
  refine F.ok sc_is_group (fun vs H Q E h => ?_) (fun cdv A outer s H vs Q E hr h => ?_)
  · obtain ⟨G, ds, r, e, ra, ⟨g, rfl, hg, rfl⟩, q⟩ := h
    exact ra.len
  · obtain ⟨G, ds, r, e, ra, ⟨g, rfl, hg, rfl⟩, q⟩ := h
    obtain ⟨v0, rfl, r0⟩ := ra.one
    refine ⟨_, (pss_cons (ps_if (PW.pt (pw_or (pt_not (pt_val (pe_callB (call_isiK' K rfl) (by rfl) T.n_isinstance (by decide +kernel) (pa_cons (pv 0) (pa_cons (pe_ty (n := "tuple") (by rfl) T.n_tuple (by decide +kernel)) pa_nil))))) (pw_or1 (pt_cmpR (op_neK K rfl hr.units) (pe_callB (call_lenK K rfl) (by rfl) T.n_len (by decide +kernel) (pa_cons (pv 0) pa_nil)) pe_int (nomark _))))) (pss_one (ps_ret pe_bl)) pss_nil)
    (pss_one (ps_ret (pe_and (pe_fn d_is_between (hr.mono (by decide)) (by rfl) (pa_cons (pe_ix (ix_seqK K rfl) (pv 0) pe_int (fun _ _ => rfl)) (pa_cons pe_int (pa_cons (pe_gI rfl T.c_MOST_TRIALS) pa_nil)))) (pe_one (pe_fn d_is_between (hr.mono (by decide)) (by rfl) (pa_cons (pe_ix (ix_seqK K rfl) (pv 0) pe_int (fun _ _ => rfl)) (pa_cons pe_int (pa_cons (pe_gI rfl T.c_MOST_POINTS) pa_nil))))))))), ?_⟩
    try dsimp only [cxOf, Cx.nox, Cx.wish]
    refine q_no e (b_orF (b_notT (by walk_at "bt")) (by walk_at "bf")) fun G1 H1 s1 => ?_
    have r0 := r0.ex s1.g
    refine s_ret (d := .bl true) s1.i ?_ fun v G2 H2 s2 r2 => q v G2 H2 (s1.trans s2) r2
    exact e_andT (e_btw (i := g.1) (by walk_at "ev") (by walk_at "ev") (by walk_at "ev") (by omega) (by omega)) (e_btw (i := g.2) (by walk_at "ev") (by walk_at "ev") (by walk_at "ev") (by omega) (by omega))

end

section
variable [Tbs] {P : Program} {w : World} {K : PySem.W.Frag} {mg : Str → Option Value} {base : Heap}
abbrev s_need_tasks : Stmt := top 21
abbrev N_need_tasks : List Str := ["tasks", "end", "k", "task", "g", "group"]
abbrev P_need_tasks : List Str := ["tasks", "end"]
theorem sc_need_tasks : FnScope N_need_tasks P_need_tasks (defScope s_need_tasks) := ⟨rfl, rfl, rfl, by decide +kernel, rfl, by decide +kernel, by decide +kernel⟩

def R_need_tasks (ds : List D) (r : D) : Prop := ∃ c : Con, ds = [.tup (c.tasks.map tkD), .int c.fin] ∧ c.Ok ∧ r = .non
abbrev sp_need_tasks (K : PySem.W.Frag) : Sp := spP K R_need_tasks
theorem nth_two {α : Type} {xs : List α} {f : α → D} {j1 j2 : Nat} {i : Nat} {x : α} (h : xs[i]? = some x) : EvG K (gTup K 2 (gCons (gName j1) (gCons (gName j2) gNil))) (.tup [.int i, nth (xs.map f) i]) [j1, j2] [.int i, f x] := by
  rw [nth_map h]
  exact g_two
theorem ok_need_tasks {f : Addr} {fd : FuncData} (F : Fun K "need_tasks" "need_tasks" s_need_tasks f fd) (T : Tx K mg) (d_is_between : Dk P w K mg base 1 "is_between" P_is_between (sp_is_between K)) (d_is_group : Dk P w K mg base 2 "is_group" P_is_group (sp_is_group K)) : FnOk P w K mg base CX0 3 f fd P_need_tasks (sp_need_tasks K) := by
  refine F.ok sc_need_tasks (fun vs H Q E h => ?_) (fun cdv A outer s H vs Q E hr h => ?_)
  · obtain ⟨G, ds, r, e, ra, ⟨c, rfl, oc, rfl⟩, q⟩ := h
    exact ra.len
  · obtain ⟨G, ds, r, e, ra, ⟨c, rfl, oc, rfl⟩, q⟩ := h
    obtain ⟨v0, v1, rfl, r0, r1⟩ := ra.two
    refine ⟨_, (pss_cons (ps_if (PW.pt (pw_or (pt_not (pt_val (pe_callB (call_isiK' K rfl) (by rfl) T.n_isinstance (by decide +kernel) (pa_cons (pv 0) (pa_cons (pe_ty (n := "tuple") (by rfl) T.n_tuple (by decide +kernel)) pa_nil))))) (pw_or1 (pt_not (pt_chain op_le op_le pe_int (pe_callB (call_lenK K rfl) (by rfl) T.n_len (by decide +kernel) (pa_cons (pv 0) pa_nil)) (pe_gI rfl T.c_MOST_TASKS)))))) (pss_one ps_never) pss_nil)
    (pss_one (ps_for PassesOwn.never rfl (pi_enK K rfl (by rfl) T.n_enumerate (pa_cons (pv 0) pa_nil)) (pg_tup rfl (pgs_cons (pg_name (i := 2) sc_need_tasks.nd rfl (by first | exact Or.inl rfl | exact Or.inr rfl)) (pgs_cons (pg_name (i := 3) sc_need_tasks.nd rfl (by first | exact Or.inl rfl | exact Or.inr rfl)) pgs_nil))) (pss_cons (ps_if (PW.pt (pw_or (pt_not (pt_val (pe_callB (call_isiK' K rfl) (by rfl) T.n_isinstance (by decide +kernel) (pa_cons (pv 3) (pa_cons (pe_ty (n := "tuple") (by rfl) T.n_tuple (by decide +kernel)) pa_nil))))) (pw_or (pt_cmpR (op_neK K rfl hr.units) (pe_callB (call_lenK K rfl) (by rfl) T.n_len (by decide +kernel) (pa_cons (pv 3) pa_nil)) pe_int (nomark _)) (pw_or1 (pt_not (pt_val (pe_fn d_is_between (hr.mono (by decide)) (by rfl) (pa_cons (pe_ix (ix_seqK K rfl) (pv 3) pe_int (fun _ _ => rfl)) (pa_cons pe_int (pa_cons (pv 1) pa_nil)))))))))) (pss_one ps_never) pss_nil)
    (pss_cons (ps_if (PW.pt (pw_or (pt_not (pt_val (pe_callB (call_isiK' K rfl) (by rfl) T.n_isinstance (by decide +kernel) (pa_cons (pe_ix (ix_seqK K rfl) (pv 3) pe_int (fun _ _ => rfl)) (pa_cons (pe_ty (n := "tuple") (by rfl) T.n_tuple (by decide +kernel)) pa_nil))))) (pw_or1 (pt_not (pt_chain op_le op_le pe_int (pe_callB (call_lenK K rfl) (by rfl) T.n_len (by decide +kernel) (pa_cons (pe_ix (ix_seqK K rfl) (pv 3) pe_int (fun _ _ => rfl)) pa_nil)) (pe_gI rfl T.c_MOST_GROUPS)))))) (pss_one ps_never) pss_nil)
    (pss_one (ps_for PassesOwn.never rfl (pi_enK K rfl (by rfl) T.n_enumerate (pa_cons (pe_ix (ix_seqK K rfl) (pv 3) pe_int (fun _ _ => rfl)) pa_nil)) (pg_tup rfl (pgs_cons (pg_name (i := 4) sc_need_tasks.nd rfl (by first | exact Or.inl rfl | exact Or.inr rfl)) (pgs_cons (pg_name (i := 5) sc_need_tasks.nd rfl (by first | exact Or.inl rfl | exact Or.inr rfl)) pgs_nil))) (pss_one (ps_if (pt_not (pt_val (pe_fn d_is_group (hr.mono (by decide)) (by rfl) (pa_cons (pv 5) pa_nil)))) (pss_one ps_never) pss_nil))))))))), ?_⟩
    try dsimp only [cxOf, Cx.nox, Cx.wish]
    have hm := oc.many
    refine q_no e (b_orF (b_notT (by walk_at "bt")) (b_notT (b_test (e_chainT (i := 1) (j := c.tasks.length) (k := 6) (by walk_at "ev") (e_len (d := .tup (c.tasks.map tkD)) (by walk_at "ev") (congrArg some (List.length_map _))) (by walk_at "ev") (by omega) (by omega))))) fun G1 H1 s1 => ?_
    have r0 := r0.ex s1.g
    have r1 := r1.ex s1.g
    refine s_for (n := c.tasks.length) (js := [2, 3]) (E := fun i => [.int i, nth (c.tasks.map tkD) i]) s1 (i_enT' (List.length_map _) (by walk_at "ev")) (fun i hi => g_two) (fun i σ' G' H' => ∃ w2 w3 w4 w5, σ' = [some v0, some v1, w2, w3, w4, w5])
      (fun _ _ _ => ⟨none, none, none, none, rfl⟩) ?_ ?_
    · rintro Gw ew i hi σ' G' H' S' ew' ⟨w2, w3, w4, w5, rfl⟩ G2 H2 us s2 ru
      have hk := Con.task_at hi
      obtain ⟨ot1, ot2, ot3, ot4⟩ := Con.task_ok oc hi
      rw [nth_map hk] at ru
      obtain ⟨a, b, rfl, ra, rb⟩ := ru.two
      have e2 : Ex G1 G2 := ew.trans (ew'.trans s2.g)
      have q0 := r0.ex e2
      have q1 := r1.ex e2
      show tSeq _ _ _ [some v0, some v1, some a, some b, w4, w5] _
      refine q_no s2.i (b_orF (b_notT (b_B (e_isi (d := tkD (c.task i)) (by walk_at "ev") rfl rfl))) (b_orF (b_test (EvD.bl (e_ne (e_len (d := tkD (c.task i)) (by walk_at "ev") rfl) e_int rfl) rfl)) (b_notT (b_B (e_btw (i := c.due i) (e_ix (d1 := tkD (c.task i)) (by walk_at "ev") e_int rfl) e_int (by walk_at "ev") (by omega) (by omega)))))) fun G3 H3 s3 => ?_
      have q0 := q0.ex s3.g
      have q1 := q1.ex s3.g
      have rb := rb.ex s3.g
      refine q_no s3.i (b_orF (b_notT (b_B (e_isi (d := .tup ((c.groups i).map gD)) (e_ix (d1 := tkD (c.task i)) (by walk_at "ev") e_int rfl) rfl rfl))) (b_notT (b_test (e_chainT (i := 1) (j := (c.groups i).length) (k := 4) (by walk_at "ev") (e_len (d := .tup ((c.groups i).map gD)) (e_ix (d1 := tkD (c.task i)) (by walk_at "ev") e_int rfl) (congrArg some (List.length_map _))) (by walk_at "ev") (by omega) (by omega))))) fun G4 H4 s4 => ?_
      have rb := rb.ex s4.g
      have S4 := ((S'.trans s2).trans s3).trans s4
      refine s_for (n := (c.groups i).length) (js := [4, 5]) (E := fun j => [.int j, nth ((c.groups i).map gD) j]) S4 (i_enT' (List.length_map _) (e_ix (d1 := tkD (c.task i)) (by walk_at "ev") e_int rfl)) (fun i hi => g_two) (fun j σ' G' H' => ∃ w4 w5, σ' = [some v0, some v1, some a, some b, w4, w5])
        (fun _ _ _ => ⟨w4, w5, rfl⟩) ?_ ?_
      · rintro Gv ev j hj σ2 G5 H5 S5 ev' ⟨w4, w5, rfl⟩ G6 H6 us s6 ru
        have hg : (c.groups i)[j]? = some ((c.groups i)[j]) := List.getElem?_eq_getElem hj
        have og := ot4 _ (List.mem_of_getElem? hg)
        rw [nth_map hg] at ru
        obtain ⟨x, y, rfl, rx, ry⟩ := ru.two
        refine s_if (b := false) s6.i (b_notT (b_B (e_call (a_one (by walk_at "ev")) ⟨_, rfl, og, rfl⟩))) (fun z => nomatch z) fun _ G7 H7 s7 => ?_
        have S7 := (S5.trans s6).trans s7
        exact ⟨G7, S7, ev'.trans (s6.g.trans s7.g), some x, some y, rfl⟩
      · rintro σ2 G5 H5 S5 e5 ⟨w4, w5, rfl⟩
        exact ⟨G5, S5, (((ew'.trans s2.g).trans s3.g).trans s4.g).trans e5, some a, some b, w4, w5, rfl⟩
    · rintro σ' G' H' S' ew ⟨w2, w3, w4, w5, rfl⟩
      exact q .non G' H' S' .non

end

section
variable [Tbs] {P : Program} {w : World} {K : PySem.W.Frag} {mg : Str → Option Value} {base : Heap}
abbrev s_need_contest : Stmt := top 22
abbrev N_need_contest : List Str := ["contest", "rule", "teams", "end", "frozen", "tasks"]
abbrev P_need_contest : List Str := ["contest"]
theorem sc_need_contest : FnScope N_need_contest P_need_contest (defScope s_need_contest) := ⟨rfl, rfl, rfl, by decide +kernel, rfl, by decide +kernel, by decide +kernel⟩

def R_need_contest (ds : List D) (r : D) : Prop := ∃ c : Con, ds = [c.d] ∧ c.Ok ∧ r = .non
abbrev sp_need_contest (K : PySem.W.Frag) : Sp := spP K R_need_contest
theorem ok_need_contest {f : Addr} {fd : FuncData} (F : Fun K "need_contest" "need_contest" s_need_contest f fd) (T : Tx K mg) (d_is_between : Dk P w K mg base 1 "is_between" P_is_between (sp_is_between K)) (d_need_tasks : Dk P w K mg base 3 "need_tasks" P_need_tasks (sp_need_tasks K)) : FnOk P w K mg base CX0 4 f fd P_need_contest (sp_need_contest K) := by
  refine F.ok sc_need_contest (fun vs H Q E h => ?_) (fun cdv A outer s H vs Q E hr h => ?_)
  · obtain ⟨G, ds, r, e, ra, ⟨c, rfl, oc, rfl⟩, q⟩ := h
    exact ra.len
  · obtain ⟨G, ds, r, e, ra, ⟨c, rfl, oc, rfl⟩, q⟩ := h
    obtain ⟨v0, rfl, r0⟩ := ra.one
    obtain ⟨aR, m_RULES, sR⟩ := T.c_RULES
    refine ⟨_, (pss_cons (ps_if (PW.pt (pw_or (pt_not (pt_val (pe_callB (call_isiK' K rfl) (by rfl) T.n_isinstance (by decide +kernel) (pa_cons (pv 0) (pa_cons (pe_ty (n := "tuple") (by rfl) T.n_tuple (by decide +kernel)) pa_nil))))) (pw_or1 (pt_cmpR (op_neK K rfl hr.units) (pe_callB (call_lenK K rfl) (by rfl) T.n_len (by decide +kernel) (pa_cons (pv 0) pa_nil)) pe_int (nomark _))))) (pss_one ps_never) pss_nil)
    (pss_cons (ps_asg (pv 0) (pg_tup rfl (pgs_cons (pg_name (i := 1) sc_need_contest.nd rfl (by first | exact Or.inl rfl | exact Or.inr rfl)) (pgs_cons (pg_name (i := 2) sc_need_contest.nd rfl (by first | exact Or.inl rfl | exact Or.inr rfl)) (pgs_cons (pg_name (i := 3) sc_need_contest.nd rfl (by first | exact Or.inl rfl | exact Or.inr rfl)) (pgs_cons (pg_name (i := 4) sc_need_contest.nd rfl (by first | exact Or.inl rfl | exact Or.inr rfl)) (pgs_cons (pg_name (i := 5) sc_need_contest.nd rfl (by first | exact Or.inl rfl | exact Or.inr rfl)) pgs_nil)))))))
    (pss_cons (ps_if (PW.pt (pw_or (pt_not (pt_val (pe_callB (call_isiK' K rfl) (by rfl) T.n_isinstance (by decide +kernel) (pa_cons (pv 1) (pa_cons (pe_ty (n := "str") (by rfl) T.n_str (by decide +kernel)) pa_nil))))) (pw_or1 (pt_cmpR (op_ninK K rfl) (pv 1) (pe_gR rfl m_RULES) (by rfl))))) (pss_one ps_never) pss_nil)
    (pss_cons (ps_if (pt_not (pt_val (pe_fn d_is_between (hr.mono (by decide)) (by rfl) (pa_cons (pv 2) (pa_cons pe_int (pa_cons (pe_gI rfl T.c_MOST_TEAMS) pa_nil)))))) (pss_one ps_never) pss_nil)
    (pss_cons (ps_if (pt_not (pt_val (pe_fn d_is_between (hr.mono (by decide)) (by rfl) (pa_cons (pv 3) (pa_cons pe_int (pa_cons (pe_gI rfl T.c_MOST_END) pa_nil)))))) (pss_one ps_never) pss_nil)
    (pss_cons (ps_if (pt_not (pt_val (pe_fn d_is_between (hr.mono (by decide)) (by rfl) (pa_cons (pv 4) (pa_cons pe_int (pa_cons (pv 3) pa_nil)))))) (pss_one ps_never) pss_nil)
    (pss_one (ps_expr (pe_fn d_need_tasks (hr.mono (by decide)) (by rfl) (pa_cons (pv 5) (pa_cons (pv 3) pa_nil))))))))))), ?_⟩
    try dsimp only [cxOf, Cx.nox, Cx.wish]
    refine q_no e (b_orF (b_notT (b_B (e_isi (d := c.d) (by walk_at "ev") rfl rfl))) (b_test (EvD.bl (e_ne (e_len (d := c.d) (by walk_at "ev") rfl) e_int rfl) rfl))) fun G1 H1 s1 => ?_
    have r0 := r0.ex s1.g
    refine q_asgT s1.i (d := c.d) (js := [1, 2, 3, 4, 5]) (es := [.str c.rule, .int c.teams, .int c.fin, .int c.frozen, .tup (c.tasks.map tkD)]) (by walk_at "ev")
      (g_tup (g_cons g_name (g_cons g_name (g_cons g_name (g_cons g_name (g_cons g_name g_nil rfl) rfl) rfl) rfl) rfl) rfl) fun us G2 H2 s2 ru => ?_
    obtain ⟨a1, a2, a3, a4, a5, rfl, p1, p2, p3, p4, p5⟩ := ru.five
    have r0 := r0.ex s2.g
    show tSeq _ _ _ [some v0, some a1, some a2, some a3, some a4, some a5] _
    have S2 := s1.trans s2
    refine q_no s2.i (b_orF (b_notT (by walk_at "bt")) (b_test (EvD.bl (e_ninK (by walk_at "ev") rfl sR rfl) ?_))) fun G3 H3 s3 => ?_
    · have h := oc.rule
      revert h
      generalize c.rule = ru
      rintro (h | h | h) <;> (subst h; decide +kernel)
    have p2 := p2.ex s3.g
    have p3 := p3.ex s3.g
    have p4 := p4.ex s3.g
    have p5 := p5.ex s3.g
    have ot := oc.teams
    have of' := oc.fin
    have ofr := oc.frozen
    have S3 := S2.trans s3
    refine q_no s3.i (b_notT (b_B (e_btw (i := c.teams) (by walk_at "ev") (by walk_at "ev") (by walk_at "ev") (by omega) (by omega)))) fun G4 H4 s4 => ?_
    have p3 := p3.ex s4.g
    have p4 := p4.ex s4.g
    have p5 := p5.ex s4.g
    have S4 := S3.trans s4
    refine q_no s4.i (b_notT (b_B (e_btw (i := c.fin) (by walk_at "ev") (by walk_at "ev") (by walk_at "ev") (by omega) (by omega)))) fun G5 H5 s5 => ?_
    have p3 := p3.ex s5.g
    have p4 := p4.ex s5.g
    have p5 := p5.ex s5.g
    have S5 := S4.trans s5
    refine q_no s5.i (b_notT (b_B (e_btw (i := c.frozen) (by walk_at "ev") (by walk_at "ev") (by walk_at "ev") (by omega) (by omega)))) fun G6 H6 s6 => ?_
    have p3 := p3.ex s6.g
    have p5 := p5.ex s6.g
    have S6 := S5.trans s6
    refine s_drop s6.i (d := .non) (e_call (a_cons (by walk_at "ev") (a_one (by walk_at "ev"))) ⟨c, rfl, oc, rfl⟩) fun G7 H7 s7 => ?_
    exact q .non G7 H7 (S6.trans s7) .non

end

section
variable [Tbs] {P : Program} {w : World} {K : PySem.W.Frag} {mg : Str → Option Value} {base : Heap}
abbrev s_is_try : Stmt := top 24
abbrev N_is_try : List Str := ["one", "contest"]
abbrev P_is_try : List Str := ["one", "contest"]
theorem sc_is_try : FnScope N_is_try P_is_try (defScope s_is_try) := ⟨rfl, rfl, rfl, by decide +kernel, rfl, by decide +kernel, by decide +kernel⟩

def R_is_try (ds : List D) (r : D) : Prop := ∃ (c : Con) (t : Try), ds = [trD t, c.d] ∧ c.Ok ∧ TrOk c t ∧ r = .bl true
abbrev sp_is_try (K : PySem.W.Frag) : Sp := spP K R_is_try
theorem ok_is_try {f : Addr} {fd : FuncData} (F : Fun K "is_try" "is_try" s_is_try f fd) (T : Tx K mg) (d_is_between : Dk P w K mg base 1 "is_between" P_is_between (sp_is_between K)) : FnOk P w K mg base CX0 2 f fd P_is_try (sp_is_try K) := by
  refine F.ok sc_is_try (fun vs H Q E h => ?_) (fun cdv A outer s H vs Q E hr h => ?_)
  · obtain ⟨G, ds, r, e, ra, ⟨c, t, rfl, oc, ot, rfl⟩, q⟩ := h
    exact ra.len
  · obtain ⟨G, ds, r, e, ra, ⟨c, t, rfl, oc, ot, rfl⟩, q⟩ := h
    obtain ⟨v0, v1, rfl, r0, r1⟩ := ra.two
    refine ⟨_, (pss_cons (ps_if (PW.pt (pw_or (pt_not (pt_val (pe_callB (call_isiK' K rfl) (by rfl) T.n_isinstance (by decide +kernel) (pa_cons (pv 0) (pa_cons (pe_ty (n := "tuple") (by rfl) T.n_tuple (by decide +kernel)) pa_nil))))) (pw_or (pt_cmpR (op_neK K rfl hr.units) (pe_callB (call_lenK K rfl) (by rfl) T.n_len (by decide +kernel) (pa_cons (pv 0) pa_nil)) pe_int (nomark _)) (pw_or1 (pt_not (pt_val (pe_fn d_is_between (hr.mono (by decide)) (by rfl) (pa_cons (pe_ix (ix_seqK K rfl) (pv 0) pe_int (fun _ _ => rfl)) (pa_cons pe_int (pa_cons (pe_op op_sub (pe_ix (ix_seqK K rfl) (pv 1) pe_int (fun _ _ => rfl)) pe_int) pa_nil)))))))))) (pss_one (ps_ret pe_bl)) pss_nil)
    (pss_one (ps_ret (pe_and (pe_fn d_is_between (hr.mono (by decide)) (by rfl) (pa_cons (pe_ix (ix_seqK K rfl) (pv 0) pe_int (fun _ _ => rfl)) (pa_cons pe_int (pa_cons (pe_op op_sub (pe_callB (call_lenK K rfl) (by rfl) T.n_len (by decide +kernel) (pa_cons (pe_ix (ix_seqK K rfl) (pv 1) pe_int (fun _ _ => rfl)) pa_nil)) pe_int) pa_nil)))) (pe_one (pe_fn d_is_between (hr.mono (by decide)) (by rfl) (pa_cons (pe_ix (ix_seqK K rfl) (pv 0) pe_int (fun _ _ => rfl)) (pa_cons pe_int (pa_cons (pe_gI rfl T.c_MOST_TIME) pa_nil))))))))), ?_⟩
    try dsimp only [cxOf, Cx.nox, Cx.wish]
    have h1 := oc.teams
    have h2 := oc.many
    have h3 := ot.team
    have h4 := ot.task
    have h5 := ot.time
    refine q_no e (b_orF (b_notT (b_B (e_isi (d := trD t) (by walk_at "ev") rfl rfl))) (b_orF (b_test (EvD.bl (e_ne (e_len (d := trD t) (by walk_at "ev") rfl) e_int rfl) rfl)) (b_notT (b_B (e_btw (i := t.1) (e_ix (d1 := trD t) (by walk_at "ev") e_int rfl) e_int (e_sub (i := c.teams) (e_ix (d1 := c.d) (by walk_at "ev") e_int rfl) e_int) (by omega) (by omega)))))) fun G1 H1 s1 => ?_
    have r0 := r0.ex s1.g
    have r1 := r1.ex s1.g
    refine s_ret (d := .bl true) s1.i ?_ fun v G2 H2 s2 r2 => q v G2 H2 (s1.trans s2) r2
    exact e_andT (e_btw (i := t.2.1) (e_ix (d1 := trD t) (by walk_at "ev") e_int rfl) e_int (e_sub (i := c.tasks.length) (e_len (d := .tup (c.tasks.map tkD)) (e_ix (d1 := c.d) (by walk_at "ev") e_int rfl) (congrArg some (List.length_map _))) e_int) (by omega) (by omega))
      (e_btw (i := t.2.2) (e_ix (d1 := trD t) (by walk_at "ev") e_int rfl) e_int (by walk_at "ev") (by omega) (by omega))

end

section
variable [Tbs] {P : Program} {w : World} {K : PySem.W.Frag} {mg : Str → Option Value} {base : Heap}
abbrev s_need_tries : Stmt := top 25
abbrev N_need_tries : List Str := ["contest", "tries", "at", "one"]
abbrev P_need_tries : List Str := ["contest", "tries"]
theorem sc_need_tries : FnScope N_need_tries P_need_tries (defScope s_need_tries) := ⟨rfl, rfl, rfl, by decide +kernel, rfl, by decide +kernel, by decide +kernel⟩

def R_need_tries (ds : List D) (r : D) : Prop := ∃ (c : Con) (ts : List Try), ds = [c.d, trsD ts] ∧ c.Ok ∧ TriesOk c ts ∧ r = .non
abbrev sp_need_tries (K : PySem.W.Frag) : Sp := spP K R_need_tries
theorem ok_need_tries {f : Addr} {fd : FuncData} (F : Fun K "need_tries" "need_tries" s_need_tries f fd) (T : Tx K mg) (d_is_try : Dk P w K mg base 2 "is_try" P_is_try (sp_is_try K)) : FnOk P w K mg base CX0 3 f fd P_need_tries (sp_need_tries K) := by
  refine F.ok sc_need_tries (fun vs H Q E h => ?_) (fun cdv A outer s H vs Q E hr h => ?_)
  · obtain ⟨G, ds, r, e, ra, ⟨c, ts, rfl, oc, ot, rfl⟩, q⟩ := h
    exact ra.len
  · obtain ⟨G, ds, r, e, ra, ⟨c, ts, rfl, oc, ot, rfl⟩, q⟩ := h
    obtain ⟨v0, v1, rfl, r0, r1⟩ := ra.two
    refine ⟨_, (pss_one (ps_for PassesOwn.never rfl (pi_enK K rfl (by rfl) T.n_enumerate (pa_cons (pv 1) pa_nil)) (pg_tup rfl (pgs_cons (pg_name (i := 2) sc_need_tries.nd rfl (by first | exact Or.inl rfl | exact Or.inr rfl)) (pgs_cons (pg_name (i := 3) sc_need_tries.nd rfl (by first | exact Or.inl rfl | exact Or.inr rfl)) pgs_nil))) (pss_one (ps_if (PW.pt (pw_or (pt_cmpR op_ge (pv 2) (pe_gI rfl T.c_MOST_TRIES) (nomark _)) (pw_or (pt_not (pt_val (pe_fn d_is_try (hr.mono (by decide)) (by rfl) (pa_cons (pv 3) (pa_cons (pv 0) pa_nil))))) (pw_or1 (PW.pt (pw_and (pt_cmpR op_gt (pv 2) pe_int (nomark _)) (pw_and1 (pt_cmpR op_lt (pe_ix (ix_seqK K rfl) (pv 3) pe_int (fun _ _ => rfl)) (pe_ix (ix_seqK K rfl) (pe_ix (ix_seqK K rfl) (pv 1) (pe_op op_sub (pv 2) pe_int) (fun _ _ => rfl)) pe_int (fun _ _ => rfl)) (nomark _))))))))) (pss_one ps_never) pss_nil)))), ?_⟩
    try dsimp only [cxOf, Cx.nox, Cx.wish]
    refine s_for (n := ts.length) (js := [2, 3]) (E := fun i => [.int i, nth (ts.map trD) i]) (Step.refl e) (i_enL' (List.length_map _) (by walk_at "ev")) (fun i hi => g_two) (fun i σ' G' H' => ∃ w2 w3, σ' = [some v0, some v1, w2, w3])
      (fun _ _ _ => ⟨none, none, rfl⟩) ?_ ?_
    · rintro Gw ew i hi σ' G' H' S' ew' ⟨w2, w3, rfl⟩ G2 H2 us s2 ru
      have hk := try_at hi
      have ok := ot.at hi
      rw [nth_map hk] at ru
      obtain ⟨a, b, rfl, ra, rb⟩ := ru.two
      have e2 : Ex G G2 := ew.trans (ew'.trans s2.g)
      have q0 := r0.ex e2
      have q1 := r1.ex e2
      have hlen := ot.len
      refine s_if (b := false) s2.i (b_orF (b_test (EvD.bl (e_ge (i := i) (j := 200) (by walk_at "ev") (by walk_at "ev")) (decide_eq_false (by omega)))) (b_orF (b_notT (b_B (e_call (a_cons (by walk_at "ev") (a_one (by walk_at "ev"))) ⟨c, _, rfl, oc, ok, rfl⟩))) ?_)) (fun z => nomatch z) fun _ G3 H3 s3 => ?_
      · by_cases h0 : i = 0
        · exact b_andF (b_test (EvD.bl (e_gt (i := i) (j := 0) (by walk_at "ev") e_int) (decide_eq_false (by omega))))
        · have hi1 : i - 1 < ts.length := by omega
          have hr' : (tryAt ts (i - 1)).2.2 ≤ (tryAt ts i).2.2 := by
            have h := List.pairwise_iff_getElem.mp ot.rise (i - 1) i hi1 hi (by omega)
            have e1 : ts[i - 1] = tryAt ts (i - 1) := Option.some.inj ((List.getElem?_eq_getElem hi1).symm.trans (try_at hi1))
            have e2 : ts[i] = tryAt ts i := Option.some.inj ((List.getElem?_eq_getElem hi).symm.trans (try_at hi))
            rw [e1, e2] at h
            exact h
          refine (b_and (a := true) (b := false) (b_test (EvD.bl (e_gt (i := i) (j := 0) (by walk_at "ev") e_int) (decide_eq_true (by omega)))) fun _ => ?_).eq rfl
          have ei : ((i : Int) - 1) = ((i - 1 : Nat) : Int) := by omega
          refine b_test (EvD.bl (e_lt (i := (tryAt ts i).2.2) (j := (tryAt ts (i - 1)).2.2) (e_ix (d1 := trD (tryAt ts i)) (by walk_at "ev") e_int rfl)
            (e_ix (d1 := trD (tryAt ts (i - 1))) (e_ix (d1 := trsD ts) (i := ((i - 1 : Nat) : Int)) (by walk_at "ev") (EvD.int (e_sub (by walk_at "ev") e_int) ei) (at_mapL (try_at hi1))) e_int rfl)) (decide_eq_false (by omega)))
      · exact ⟨G3, (S'.trans s2).trans s3, ew'.trans (s2.g.trans s3.g), some a, some b, rfl⟩
    · rintro σ' G' H' S' ew ⟨w2, w3, rfl⟩
      exact q .non G' H' S' .non

end

section
variable [Tbs] {P : Program} {w : World} {K : PySem.W.Frag} {mg : Str → Option Value} {base : Heap}
abbrev s_is_verdict : Stmt := top 26
abbrev N_is_verdict : List Str := ["verdict", "contest", "tries"]
abbrev P_is_verdict : List Str := ["verdict", "contest", "tries"]
theorem sc_is_verdict : FnScope N_is_verdict P_is_verdict (defScope s_is_verdict) := ⟨rfl, rfl, rfl, by decide +kernel, rfl, by decide +kernel, by decide +kernel⟩

def R_is_verdict (ds : List D) (r : D) : Prop := ∃ (c : Con) (ts : List Try) (v : Ver), ds = [vrD v, c.d, trsD ts] ∧ c.Ok ∧ TriesOk c ts ∧ v.1 < ts.length ∧ v.2.1 < szOf c ts v.1 ∧ r = .bl true
abbrev sp_is_verdict (K : PySem.W.Frag) : Sp := spP K R_is_verdict
theorem ok_is_verdict {f : Addr} {fd : FuncData} (F : Fun K "is_verdict" "is_verdict" s_is_verdict f fd) (T : Tx K mg) (d_is_between : Dk P w K mg base 1 "is_between" P_is_between (sp_is_between K)) (d_trials_of : Dk P w K mg base 1 "trials_of" P_trials_of (sp_trials_of K)) : FnOk P w K mg base CX0 2 f fd P_is_verdict (sp_is_verdict K) := by
  refine F.ok sc_is_verdict (fun vs H Q E h => ?_) (fun cdv A outer s H vs Q E hr h => ?_)
  · obtain ⟨G, ds, r, e, ra, ⟨c, ts, v, rfl, oc, ot, h1, h2, rfl⟩, q⟩ := h
    exact ra.len
  · obtain ⟨G, ds, r, e, ra, ⟨c, ts, v, rfl, oc, ot, h1, h2, rfl⟩, q⟩ := h
    obtain ⟨v0, v1, v2, rfl, r0, r1, r2⟩ := ra.three
    refine ⟨_, (pss_cons (ps_if (PW.pt (pw_or (pt_not (pt_val (pe_callB (call_isiK' K rfl) (by rfl) T.n_isinstance (by decide +kernel) (pa_cons (pv 0) (pa_cons (pe_ty (n := "tuple") (by rfl) T.n_tuple (by decide +kernel)) pa_nil))))) (pw_or (pt_cmpR (op_neK K rfl hr.units) (pe_callB (call_lenK K rfl) (by rfl) T.n_len (by decide +kernel) (pa_cons (pv 0) pa_nil)) pe_int (nomark _)) (pw_or1 (pt_not (pt_val (pe_fn d_is_between (hr.mono (by decide)) (by rfl) (pa_cons (pe_ix (ix_seqK K rfl) (pv 0) pe_int (fun _ _ => rfl)) (pa_cons pe_int (pa_cons (pe_op op_sub (pe_callB (call_lenK K rfl) (by rfl) T.n_len (by decide +kernel) (pa_cons (pv 2) pa_nil)) pe_int) pa_nil)))))))))) (pss_one (ps_ret pe_bl)) pss_nil)
    (pss_one (ps_ret (pe_and (pe_fn d_is_between (hr.mono (by decide)) (by rfl) (pa_cons (pe_ix (ix_seqK K rfl) (pv 0) pe_int (fun _ _ => rfl)) (pa_cons pe_int (pa_cons (pe_op op_sub (pe_fn d_trials_of (hr.mono (by decide)) (by rfl) (pa_cons (pv 1) (pa_cons (pe_ix (ix_seqK K rfl) (pe_ix (ix_seqK K rfl) (pv 2) (pe_ix (ix_seqK K rfl) (pv 0) pe_int (fun _ _ => rfl)) (fun _ _ => rfl)) pe_int (fun _ _ => rfl)) pa_nil))) pe_int) pa_nil)))) (pe_one (pe_callB (call_isiK' K rfl) (by rfl) T.n_isinstance (by decide +kernel) (pa_cons (pe_ix (ix_seqK K rfl) (pv 0) pe_int (fun _ _ => rfl)) (pa_cons (pe_ty (n := "bool") (by rfl) T.n_bool (by decide +kernel)) pa_nil)))))))), ?_⟩
    try dsimp only [cxOf, Cx.nox, Cx.wish]
    have hk := try_at h1
    have ok := (ot.at h1).task
    refine q_no e (b_orF (b_notT (b_B (e_isi (d := vrD v) (by walk_at "ev") rfl rfl))) (b_orF (b_test (EvD.bl (e_ne (e_len (d := vrD v) (by walk_at "ev") rfl) e_int rfl) rfl)) (b_notT (b_B (e_btw (i := v.1) (e_ix (d1 := vrD v) (by walk_at "ev") e_int rfl) e_int (e_sub (i := ts.length) (e_len (d := trsD ts) (by walk_at "ev") (congrArg some (List.length_map _))) e_int) (by omega) (by omega)))))) fun G1 H1 s1 => ?_
    have r0 := r0.ex s1.g
    have r1 := r1.ex s1.g
    have r2 := r2.ex s1.g
    refine s_ret (d := .bl true) s1.i ?_ fun v G2 H2 s2 r2 => q v G2 H2 (s1.trans s2) r2
    exact e_andT (e_btw (i := v.2.1) (e_ix (d1 := vrD v) (by walk_at "ev") e_int rfl) e_int (e_sub (i := szOf c ts v.1) (e_call (a_cons (by walk_at "ev") (a_one
        (e_ix (d1 := trD (tryAt ts v.1)) (e_ix (d1 := trsD ts) (by walk_at "ev") (e_ix (d1 := vrD v) (by walk_at "ev") e_int rfl) (at_mapL hk)) e_int rfl))) ⟨c, _, rfl, oc, ok, rfl⟩) e_int) (by omega) (by omega))
      (e_isi (d := .bl v.2.2) (e_ix (d1 := vrD v) (by walk_at "ev") e_int rfl) rfl rfl)

end

section
variable [Tbs] {P : Program} {w : World} {K : PySem.W.Frag} {mg : Str → Option Value} {base : Heap}
abbrev s_need_verdicts : Stmt := top 27
abbrev N_need_verdicts : List Str := ["contest", "tries", "verdicts", "met", "at", "verdict"]
abbrev P_need_verdicts : List Str := ["contest", "tries", "verdicts"]
theorem sc_need_verdicts : FnScope N_need_verdicts P_need_verdicts (defScope s_need_verdicts) := ⟨rfl, rfl, rfl, by decide +kernel, rfl, by decide +kernel, by decide +kernel⟩

def R_need_verdicts (ds : List D) (r : D) : Prop := ∃ (c : Con) (ts : List Try) (vs : List Ver), ds = [c.d, trsD ts, vrsD vs] ∧ c.Ok ∧ TriesOk c ts ∧ VersOk c ts vs ∧ vs.length ≤ 100000 ∧ r = .non
abbrev sp_need_verdicts (K : PySem.W.Frag) : Sp := spP K R_need_verdicts
def verK (v : Ver) : List Key := [.inl v.1, .inl v.2.1]
theorem verK_inj {a b : Ver} (h : verK a = verK b) : (a.1, a.2.1) = (b.1, b.2.1) := by
  unfold verK at h
  injection h with h1 h2
  injection h2 with h2 _
  injection h1 with h1
  injection h2 with h2
  exact Prod.ext (Int.ofNat.inj h1) (Int.ofNat.inj h2)
/-- the dict of those met so far -/
def metK (vs : List Ver) : List (List Key × V) := vs.map fun v => (verK v, .bl true)
theorem valV_map_none {α : Type} {f : α → List Key} {g : α → V} {k : List Key} : ∀ {xs : List α}, (∀ x ∈ xs, f x ≠ k) → valV (xs.map fun x => (f x, g x)) k = none
  | [], _ => rfl
  | x :: xs, h => by
    rw [List.map_cons, valV_neg (h x List.mem_cons_self)]
    exact valV_map_none fun y hy => h y (List.mem_cons_of_mem _ hy)
theorem e_key {σ : L2.St} {G : Hp} {te : TE} {v : Ver} (h : EvD K te σ G (vrD v)) : EvD K (tSl (rSlA K) te tNoPart (tPart (tC (.int 2)))) σ G (.tup ((verK v).map kD)) :=
  e_slT h p_none (p_some (e_int (K := K))) (fun z => by have h : (2 : Nat) = 3 := z.2; omega) rfl
theorem ok_need_verdicts {f : Addr} {fd : FuncData} (F : Fun K "need_verdicts" "need_verdicts" s_need_verdicts f fd) (T : Tx K mg) (d_is_verdict : Dk P w K mg base 2 "is_verdict" P_is_verdict (sp_is_verdict K)) : FnOk P w K mg base CX0 3 f fd P_need_verdicts (sp_need_verdicts K) := by
  refine F.ok sc_need_verdicts (fun vs H Q E h => ?_) (fun cdv A outer s H vs Q E hr h => ?_)
  · obtain ⟨G, ds, r, e, ra, ⟨c, ts, vs, rfl, oc, ot, ov, hlen, rfl⟩, q⟩ := h
    exact ra.len
  · obtain ⟨G, ds, r, e, ra, ⟨c, ts, vs, rfl, oc, ot, ov, hlen, rfl⟩, q⟩ := h
    obtain ⟨v0, v1, v2, rfl, r0, r1, r2⟩ := ra.three
    refine ⟨_, (pss_cons (ps_set (i := 3) sc_need_verdicts.nd rfl (by first | exact Or.inl rfl | exact Or.inr rfl) pe_dnewT)
    (pss_one (ps_for PassesOwn.never rfl (pi_enK K rfl (by rfl) T.n_enumerate (pa_cons (pv 2) pa_nil)) (pg_tup rfl (pgs_cons (pg_name (i := 4) sc_need_verdicts.nd rfl (by first | exact Or.inl rfl | exact Or.inr rfl)) (pgs_cons (pg_name (i := 5) sc_need_verdicts.nd rfl (by first | exact Or.inl rfl | exact Or.inr rfl)) pgs_nil))) (pss_cons (ps_if (PW.pt (pw_or (pt_not (pt_val (pe_fn d_is_verdict (hr.mono (by decide)) (by rfl) (pa_cons (pv 5) (pa_cons (pv 0) (pa_cons (pv 1) pa_nil)))))) (pw_or1 (pt_cmp (pc_din (hu_of hr) (pe_slice (sl_seqK K rfl) (pv 5) po_none (po_some pe_int)) (pv 3)))))) (pss_one ps_never) pss_nil)
    (pss_one (ps_dput (hu_of hr) (pv 3) (pe_slice (sl_seqK K rfl) (pv 5) po_none (po_some pe_int)) pe_bl rfl)))))), ?_⟩
    try dsimp only [cxOf, Cx.nox, Cx.wish]
    refine q_newT e fun p H1 hp gp s1 hx => ?_
    refine s_for (n := vs.length) (js := [4, 5]) (E := fun i => [.int i, nth (vs.map vrD) i]) s1 (i_enL' (List.length_map _) (by walk_at "ev")) (fun i hi => g_two)
      (fun i σ' G' H' => G' p = none ∧ H' p = some (.dT (metK (vs.take i))) ∧ ∃ w4 w5, σ' = [some v0, some v1, some v2, some (.ref p), w4, w5])
      (fun G1 H1' s => ⟨(s.keep gp hx).1, (s.keep gp hx).2, none, none, rfl⟩) ?_ ?_
    · rintro Gw ew i hi σ' G' H' S' ew' ⟨g', h', w4, w5, rfl⟩ G2 H2 us s2 ru
      have hk : vs[i]? = some vs[i] := List.getElem?_eq_getElem hi
      have ok := ov.ok _ (List.mem_of_getElem? hk)
      rw [nth_map hk] at ru
      obtain ⟨a, b, rfl, ra, rb⟩ := ru.two
      have e2 : Ex G G2 := ew.trans (ew'.trans s2.g)
      obtain ⟨g2, x2⟩ := s2.keep g' h'
      have hnew : valV (metK (vs.take i)) (verK vs[i]) = none := by
        refine valV_map_none fun x hx hxe => ?_
        obtain ⟨j, hj⟩ := List.getElem?_of_mem hx
        have hji : j < i := by
          have := (List.getElem?_eq_some_iff.mp hj).1
          rw [List.length_take] at this
          omega
        rw [List.getElem?_take, if_pos hji] at hj
        have hnd := ov.once
        have h1 : (vs.map fun v => (v.1, v.2.1))[j]? = some (x.1, x.2.1) := by rw [List.getElem?_map, hj]; rfl
        have h2 : (vs.map fun v => (v.1, v.2.1))[i]? = some (x.1, x.2.1) := by rw [List.getElem?_map, hk, verK_inj hxe]; rfl
        have := nd_ix hnd h1 h2
        omega
      have q0 := rp_own (o := .dT (metK (vs.take i))) g2 (r0.ex e2)
      have q1 := rp_own (o := .dT (metK (vs.take i))) g2 (r1.ex e2)
      have qb := rp_own (o := .dT (metK (vs.take i))) g2 rb
      have qm : Rp K (upd G2 p (.dT (metK (vs.take i)))) (.ref p) (.tab (metK (vs.take i))) := .tab upd_same
      refine q_ifO (b := false) s2.i g2 x2 (b_orF (b_notT (b_B (e_call (a_cons (by walk_at "ev") (a_cons (by walk_at "ev") (a_one (by walk_at "ev")))) ⟨c, ts, _, rfl, oc, ot, ok.1, ok.2, rfl⟩))) (b_B (EvD.bl (e_din (e_key (by walk_at "ev")) (by walk_at "ev") rfl) (by rw [hnew]; rfl)))) (fun z => nomatch z) fun _ G3 H3 s3 g3 x3 => ?_
      have rb3 := rb.ex s3.g
      refine s_dputT s3.i g3 x3 rfl e_bl rfl (e_key (by walk_at "ev")) rfl (by unfold metK; rw [List.length_map, List.length_take]; omega) fun G4 H4 s4 g4 => ?_
      have S4 := ((S'.trans s2).trans s3).trans s4
      refine ⟨G4, S4.mut hp g4, ew'.trans (s2.g.trans (s3.g.trans s4.g)), g4, ?_, some a, some b, rfl⟩
      rw [upd_same, List.take_add_one, hk]
      rw [putK_new _ hnew]
      unfold metK
      rw [List.map_append]
      rfl
    · rintro σ' G' H' S' ew ⟨_, _, w4, w5, rfl⟩
      exact q .non G' H' S' .non

end

section
variable [Tbs] {P : Program} {w : World} {K : PySem.W.Frag} {mg : Str → Option Value} {base : Heap}
abbrev s_need_all : Stmt := top 28
abbrev N_need_all : List Str := ["contest", "tries", "verdicts"]
abbrev P_need_all : List Str := ["contest", "tries", "verdicts"]
theorem sc_need_all : FnScope N_need_all P_need_all (defScope s_need_all) := ⟨rfl, rfl, rfl, by decide +kernel, rfl, by decide +kernel, by decide +kernel⟩

def R_need_all (ds : List D) (r : D) : Prop := ∃ (c : Con) (ts : List Try) (vs : List Ver), ds = [c.d, trsD ts, vrsD vs] ∧ c.Ok ∧ TriesOk c ts ∧ VersOk c ts vs ∧ vs.length ≤ 100000 ∧ r = .non
abbrev sp_need_all (K : PySem.W.Frag) : Sp := spP K R_need_all
theorem ok_need_all {f : Addr} {fd : FuncData} (F : Fun K "need_all" "need_all" s_need_all f fd) (T : Tx K mg) (d_need_contest : Dk P w K mg base 4 "need_contest" P_need_contest (sp_need_contest K)) (d_need_tries : Dk P w K mg base 3 "need_tries" P_need_tries (sp_need_tries K)) (d_need_verdicts : Dk P w K mg base 3 "need_verdicts" P_need_verdicts (sp_need_verdicts K)) : FnOk P w K mg base CX0 5 f fd P_need_all (sp_need_all K) := by
  refine F.ok sc_need_all (fun vs H Q E h => ?_) (fun cdv A outer s H vs Q E hr h => ?_)
  · obtain ⟨G, ds, r, e, ra, ⟨c, ts, vs, rfl, oc, ot, ov, hlen, rfl⟩, q⟩ := h
    exact ra.len
  · obtain ⟨G, ds, r, e, ra, ⟨c, ts, vs, rfl, oc, ot, ov, hlen, rfl⟩, q⟩ := h
    obtain ⟨v0, v1, v2, rfl, r0, r1, r2⟩ := ra.three
    refine ⟨_, (pss_cons (ps_expr (pe_fn d_need_contest (hr.mono (by decide)) (by rfl) (pa_cons (pv 0) pa_nil)))
    (pss_cons (ps_expr (pe_fn d_need_tries (hr.mono (by decide)) (by rfl) (pa_cons (pv 0) (pa_cons (pv 1) pa_nil))))
    (pss_one (ps_expr (pe_fn d_need_verdicts (hr.mono (by decide)) (by rfl) (pa_cons (pv 0) (pa_cons (pv 1) (pa_cons (pv 2) pa_nil)))))))), ?_⟩
    try dsimp only [cxOf, Cx.nox, Cx.wish]
    refine q_drop e (d := .non) (e_call (a_one (by walk_at "ev")) ⟨c, rfl, oc, rfl⟩) fun G1 H1 s1 => ?_
    have r0 := r0.ex s1.g
    have r1 := r1.ex s1.g
    have r2 := r2.ex s1.g
    refine q_drop s1.i (d := .non) (e_call (a_cons (by walk_at "ev") (a_one (by walk_at "ev"))) ⟨c, ts, rfl, oc, ot, rfl⟩) fun G2 H2 s2 => ?_
    have r0 := r0.ex s2.g
    have r1 := r1.ex s2.g
    have r2 := r2.ex s2.g
    refine s_drop s2.i (d := .non) (e_call (a_cons (by walk_at "ev") (a_cons (by walk_at "ev") (a_one (by walk_at "ev")))) ⟨c, ts, vs, rfl, oc, ot, ov, hlen, rfl⟩) fun G3 H3 s3 => ?_
    exact q .non G3 H3 ((s1.trans s2).trans s3) .non

end

section
variable [Tbs] {P : Program} {w : World} {K : PySem.W.Frag} {mg : Str → Option Value} {base : Heap}

def verT (vs : List Ver) : List (List Key × V) := mergeT [] (vs.map fun v => (verK v, .bl v.2.2))
def R_table_of (ds : List D) (r : D) : Prop := ∃ (vs : List Ver), ds = [vrsD vs] ∧ vs.length ≤ 100000 ∧ r = .tab (verT vs)
abbrev sp_table_of (K : PySem.W.Frag) : Sp := spP K R_table_of
end

section
variable [Tbs] {P : Program} {w : World} {K : PySem.W.Frag} {mg : Str → Option Value} {base : Heap}

/-- what stands of a trial: none, or whether it passed -/
def obD : Option Bool → D
  | none => .non
  | some b => .bl b
inductive Sta | passed | failed | opened
  deriving DecidableEq
def Sta.s : Sta → Str
  | .passed => PySem.Str.ofString "passed"
  | .failed => PySem.Str.ofString "failed"
  | .opened => PySem.Str.ofString "open"
def staOf (bs : List (Option Bool)) : Sta := if some false ∈ bs then .failed else if none ∈ bs then .opened else .passed
def R_state_of (ds : List D) (r : D) : Prop := ∃ bs : List (Option Bool), ds = [.lst (bs.map obD)] ∧ r = .str (staOf bs).s
abbrev sp_state_of (K : PySem.W.Frag) : Sp := spP K R_state_of
theorem flat_ob (bs : List (Option Bool)) : (bs.map obD).all D.flat = true := by
  rw [List.all_map]
  exact List.all_eq_true.mpr fun b _ => by cases b <;> rfl
theorem in_ob (b : Option Bool) (bs : List (Option Bool)) : inD (obD b) (bs.map obD) = decide (b ∈ bs) := by
  unfold inD inV
  rw [List.map_map, List.any_map]
  induction bs with
  | nil => rfl
  | cons a bs ih =>
    rw [List.any_cons, ih]
    have e : ((fun y => eqV y (obD b).toV) ∘ (D.toV ∘ obD)) a = decide (b = a) := by
      cases a <;> cases b <;> first | rfl | (rename_i x; cases x <;> rfl) | (rename_i x y; cases x <;> cases y <;> rfl)
    rw [e]
    by_cases h : b = a
    · simp [h]
    · simp [h]
end

/-! ### the states of groups -/
theorem pick_all {n : Nat} {f : Nat → D} : pick n (fun _ => true) f = (List.range n).map f := by
  unfold pick
  rw [List.filter_eq_self.mpr (fun _ _ => rfl)]
structure TabOk (kvs : List (List Key × V)) (tb : Nat → Nat → Option Bool) : Prop where
  at' : ∀ n t : Nat, valV kvs [.inl n, .inl t] = (tb n t).map V.bl
theorem TabOk.get {kvs : List (List Key × V)} {tb : Nat → Nat → Option Bool} (h : TabOk kvs tb) (n t : Nat) : vD ((valV kvs [.inl n, .inl t]).getD .non) = obD (tb n t) := by
  rw [h.at']
  cases tb n t <;> rfl
theorem TabOk.has {kvs : List (List Key × V)} {tb : Nat → Nat → Option Bool} (h : TabOk kvs tb) (n t : Nat) : (valV kvs [.inl n, .inl t]).isSome = (tb n t).isSome := by
  rw [h.at']
  cases tb n t <;> rfl
theorem TabOk.scal {kvs : List (List Key × V)} {tb : Nat → Nat → Option Bool} (h : TabOk kvs tb) (n t : Nat) : ∀ v, valV kvs [.inl n, .inl t] = some v → scalV v = true := by
  intro v e
  rw [h.at'] at e
  cases q : tb n t with
  | none => rw [q] at e; cases e
  | some b => rw [q] at e; cases e; rfl
def grp (gs : List (Nat × Nat)) (g : Nat) : Nat × Nat := gs.getD g (0, 0)
theorem grp_at {gs : List (Nat × Nat)} {g : Nat} (h : g < gs.length) : gs[g]? = some (grp gs g) := by
  unfold grp
  rw [List.getD_eq_getElem?_getD, List.getElem?_eq_getElem h]
  rfl
def pre (gs : List (Nat × Nat)) (g : Nat) : Nat := ((gs.take g).map (·.1)).sum
theorem pre_zero (gs : List (Nat × Nat)) : pre gs 0 = 0 := rfl
theorem pre_succ {gs : List (Nat × Nat)} {g : Nat} (h : g < gs.length) : pre gs (g + 1) = pre gs g + (grp gs g).1 := by
  unfold pre
  rw [List.take_add_one, grp_at h]
  simp
theorem pre_full {gs : List (Nat × Nat)} : pre gs gs.length = sizeG gs := by
  unfold pre sizeG
  rw [List.take_length]
theorem pre_mono {gs : List (Nat × Nat)} : ∀ {a b : Nat}, a ≤ b → b ≤ gs.length → pre gs a ≤ pre gs b
  | a, b, h, hb => by
    induction b with
    | zero =>
      have : a = 0 := by omega
      subst this
      exact Nat.le_refl _
    | succ b ih =>
      by_cases e : a = b + 1
      · subst e; exact Nat.le_refl _
      · have h1 := ih (by omega) (by omega)
        rw [pre_succ (by omega)]
        omega
def gSt (gs : List (Nat × Nat)) (f : Nat → Option Bool) (g : Nat) : Sta := staOf ((List.range (grp gs g).1).map fun j => f (pre gs g + j))
def gSts (gs : List (Nat × Nat)) (f : Nat → Option Bool) : List Sta := (List.range gs.length).map (gSt gs f)
theorem gSts_len {gs : List (Nat × Nat)} {f : Nat → Option Bool} : (gSts gs f).length = gs.length := by
  unfold gSts
  rw [List.length_map, List.length_range]
theorem gSts_at {gs : List (Nat × Nat)} {f : Nat → Option Bool} {g : Nat} (h : g < gs.length) : (gSts gs f)[g]? = some (gSt gs f g) := by
  unfold gSts
  rw [List.getElem?_map, List.getElem?_range h]
  rfl
def stD (s : Sta) : D := .str s.s
/-- the groups of a try's task -/
abbrev gsOf (c : Con) (ts : List Try) (n : Nat) : List (Nat × Nat) := c.groups (tryAt ts n).2.1
theorem Con.size_le20 {c : Con} (o : c.Ok) {k : Nat} (h : k < c.tasks.length) : c.size k ≤ 20 := by
  have q := Con.task_ok o h
  have := size_le q.2.2.2
  have h2 := q.2.2.1
  show sizeG (c.groups k) ≤ 20
  omega
theorem nodup_len {l : List Nat} {L : Nat} (hn : l.Nodup) (hl : ∀ g ∈ l, g < L) : l.length ≤ L := by
  have hp : (l ++ (List.range L).filter fun g => decide (g ∉ l)).Perm (List.range L) := by
    refine (List.perm_ext_iff_of_nodup ?_ List.nodup_range).mpr fun g => ?_
    · refine List.nodup_append.mpr ⟨hn, List.nodup_range.filter _, fun a ha b hb z => ?_⟩
      subst z
      exact of_decide_eq_true (List.mem_filter.mp hb).2 ha
    · rw [List.mem_append, List.mem_filter, List.mem_range, decide_eq_true_eq]
      constructor
      · rintro (h | h)
        · exact hl g h
        · exact h.1
      · intro h
        by_cases hm : g ∈ l
        · exact .inl hm
        · exact .inr ⟨h, hm⟩
  have h1 := hp.length_eq
  rw [List.length_append, List.length_range] at h1
  omega

section
variable [Tbs] {P : Program} {w : World} {K : PySem.W.Frag} {mg : Str → Option Value} {base : Heap}

def R_group_states (ds : List D) (r : List D) : Prop := ∃ (c : Con) (ts : List Try) (kvs : List (List Key × V)) (tb : Nat → Nat → Option Bool) (n : Nat), ds = [c.d, trsD ts, .tab kvs, .int n] ∧ c.Ok ∧ TriesOk c ts ∧ TabOk kvs tb ∧ n < ts.length ∧ r = (gSts (gsOf c ts n) (tb n)).map stD
abbrev sp_group_states (K : PySem.W.Frag) : Sp := spF K R_group_states
end

section
variable [Tbs] {P : Program} {w : World} {K : PySem.W.Frag} {mg : Str → Option Value} {base : Heap}

def trySt (ss : List Sta) : Sta := if Sta.failed ∈ ss then .failed else if Sta.opened ∈ ss then .opened else .passed
/-- the state of try n -/
def tSt (c : Con) (ts : List Try) (tb : Nat → Nat → Option Bool) (n : Nat) : Sta := trySt (gSts (gsOf c ts n) (tb n))
def R_try_state (ds : List D) (r : D) : Prop := ∃ (c : Con) (ts : List Try) (kvs : List (List Key × V)) (tb : Nat → Nat → Option Bool) (n : Nat), ds = [c.d, trsD ts, .tab kvs, .int n] ∧ c.Ok ∧ TriesOk c ts ∧ TabOk kvs tb ∧ n < ts.length ∧ r = stD (tSt c ts tb n)
abbrev sp_try_state (K : PySem.W.Frag) : Sp := spP K R_try_state
theorem flat_st (ss : List Sta) : (ss.map stD).all D.flat = true := by
  rw [List.all_map]
  exact List.all_eq_true.mpr fun b _ => rfl
theorem st_inj {a b : Sta} (h : a.s = b.s) : a = b := by
  cases a <;> cases b <;> first | rfl | exact absurd h (by decide +kernel)
theorem in_st (s : Sta) (ss : List Sta) : inD (stD s) (ss.map stD) = decide (s ∈ ss) := by
  unfold inD inV
  rw [List.map_map, List.any_map]
  induction ss with
  | nil => rfl
  | cons a ss ih =>
    rw [List.any_cons, ih]
    have e : ((fun y => eqV y (stD s).toV) ∘ (D.toV ∘ stD)) a = decide (s = a) := by
      show eqV (.str a.s) (.str s.s) = decide (s = a)
      show (a.s == s.s) = decide (s = a)
      by_cases h : s = a
      · subst h; simp
      · rw [decide_eq_false h]
        exact beq_eq_false_iff_ne.mpr fun z => h (st_inj z).symm
    rw [e]
    by_cases h : s = a
    · simp [h]
    · simp [h]
theorem st_eq (a b : Sta) : decide (a.s = b.s) = decide (a = b) := dec_iff ⟨st_inj, fun h => congrArg _ h⟩
theorem ok_lst {α : Type} {xs : List α} {f : α → D} (h : ∀ x ∈ xs, ∃ i : Int, f x = .int i) : D.ok (.lst (xs.map f)) = true := by
  have h1 : D.plainA (xs.map f) = true := by
    induction xs with
    | nil => rfl
    | cons x xs ih =>
      obtain ⟨i, e⟩ := h x List.mem_cons_self
      rw [List.map_cons, e]
      exact ih fun y hy => h y (List.mem_cons_of_mem _ hy)
  have h2 : PyData.canLayAll0 (D.pyA (xs.map f)) = true ∧ PyData.depthAll (D.pyA (xs.map f)) = 0 := by
    clear h1
    induction xs with
    | nil => exact ⟨rfl, rfl⟩
    | cons x xs ih =>
      obtain ⟨i, e⟩ := h x List.mem_cons_self
      obtain ⟨q1, q2⟩ := ih fun y hy => h y (List.mem_cons_of_mem _ hy)
      rw [List.map_cons, e]
      exact ⟨q1, by show max 0 (PyData.depthAll _) = 0; rw [q2]; rfl⟩
  unfold D.ok SeqAt.shaped
  rw [Bool.and_eq_true, Bool.and_eq_true]
  refine ⟨h1, h2.1, ?_⟩
  show decide (PyData.depthAll _ + 1 ≤ 64) = true
  rw [h2.2]
  rfl
theorem eqv_nil (ds : List D) : PyData.eqv (D.py (.lst ds)) (D.py (.lst [])) = ds.isEmpty := by cases ds <;> rfl
theorem try_failed (ss : List Sta) : trySt ss = .failed ↔ Sta.failed ∈ ss := by
  unfold trySt
  by_cases h : Sta.failed ∈ ss
  · simp [h]
  · rw [if_neg h]
    refine ⟨fun z => ?_, fun z => absurd z h⟩
    split at z <;> cases z
theorem try_passed (ss : List Sta) : decide (trySt ss = .passed) = ss.all fun s => decide (s = .passed) := by
  rw [Bool.eq_iff_iff, decide_eq_true_eq, List.all_eq_true]
  unfold trySt
  constructor
  · intro z s hs
    refine decide_eq_true ?_
    by_cases h : Sta.failed ∈ ss
    · rw [if_pos h] at z; cases z
    · rw [if_neg h] at z
      by_cases h2 : Sta.opened ∈ ss
      · rw [if_pos h2] at z; cases z
      · cases s with
        | passed => rfl
        | failed => exact absurd hs h
        | opened => exact absurd hs h2
  · intro z
    rw [if_neg (fun h => absurd (of_decide_eq_true (z _ h)) (by decide)), if_neg (fun h => absurd (of_decide_eq_true (z _ h)) (by decide))]
end

section
variable [Tbs] {P : Program} {w : World} {K : PySem.W.Frag} {mg : Str → Option Value} {base : Heap}

/-- the tries of a team at a task ahead of a time -/
def isOf (team task until' : Nat) (t : Try) : Bool := decide (t.1 = team ∧ t.2.1 = task) && decide (t.2.2 < until')
def numsOf (ts : List Try) (team task until' : Nat) : List Nat := (List.range ts.length).filter fun k => isOf team task until' (tryAt ts k)
def natD (n : Nat) : D := .int n
def R_numbers_of (ds : List D) (r : List D) : Prop := ∃ (c : Con) (ts : List Try) (team task until' : Nat), ds = [c.d, trsD ts, .int team, .int task, .int until'] ∧ ts.length ≤ 200 ∧ r = (numsOf ts team task until').map natD
abbrev sp_numbers_of (K : PySem.W.Frag) : Sp := spF K R_numbers_of
theorem eqv2 (a b c d : Nat) : PyData.eqv (D.py (.tup [.int a, .int b])) (D.py (.tup [.int c, .int d])) = decide (a = c ∧ b = d) := by
  show (((a : Int) == (c : Int)) && (((b : Int) == (d : Int)) && true)) = _
  by_cases h1 : a = c
  · by_cases h2 : b = d
    · simp [h1, h2]
    · simp [h1, h2]
      intro z; exact h2 (Int.ofNat.inj z)
  · simp [h1]
    intro z; exact absurd (Int.ofNat.inj z) h1
theorem e_pair {σ : L2.St} {G : Hp} {te : TE} {t : Try} (h : EvD K te σ G (trD t)) : EvD K (tSl (rSlA K) te tNoPart (tPart (tC (.int 2)))) σ G (.tup [.int t.1, .int t.2.1]) :=
  e_slT h p_none (p_some (e_int (K := K))) (fun z => by have h : (2 : Nat) = 3 := z.2; omega) rfl
end

section
variable [Tbs] {P : Program} {w : World} {K : PySem.W.Frag} {mg : Str → Option Value} {base : Heap}
/-- what the verdicts tell of a trial -/
def tbOf (vs : List Ver) (n t : Nat) : Option Bool := (vs.find? fun v => decide (v.1 = n ∧ v.2.1 = t)).map fun v => v.2.2
theorem verT_eq {vs : List Ver} (h : (vs.map fun v => (v.1, v.2.1)).Nodup) : verT vs = vs.map fun v => (verK v, V.bl v.2.2) := by
  unfold verT
  have key : ∀ (ws us : List Ver), (ws ++ us).map (fun v => (v.1, v.2.1)) = (ws ++ us).map (fun v => (v.1, v.2.1)) → ((ws ++ us).map fun v => (v.1, v.2.1)).Nodup → mergeT (ws.map fun v => (verK v, V.bl v.2.2)) (us.map fun v => (verK v, V.bl v.2.2)) = (ws ++ us).map fun v => (verK v, V.bl v.2.2) := by
    intro ws us
    induction us generalizing ws with
    | nil => intro _ _; rw [List.append_nil]; rfl
    | cons u us ih =>
      intro _ hn
      have hnone : valV (ws.map fun v => (verK v, V.bl v.2.2)) (verK u) = none := by
        refine valV_map_none fun x hx hxe => ?_
        rw [List.map_append, List.map_cons] at hn
        have h1 := (List.nodup_append.mp hn).2.2 (x.1, x.2.1) (List.mem_map.mpr ⟨x, hx, rfl⟩) (u.1, u.2.1) List.mem_cons_self
        exact h1 (verK_inj hxe)
      show mergeT (putK (ws.map fun v => (verK v, V.bl v.2.2)) (verK u) (.bl u.2.2)) (us.map fun v => (verK v, V.bl v.2.2)) = _
      rw [putK_new _ hnone]
      have e : (ws.map fun v => (verK v, V.bl v.2.2)) ++ [(verK u, V.bl u.2.2)] = (ws ++ [u]).map fun v => (verK v, V.bl v.2.2) := by rw [List.map_append]; rfl
      rw [e, ih (ws ++ [u]) rfl (by rw [List.append_assoc]; exact hn), List.append_assoc]
      rfl
  exact key [] vs rfl h
theorem valV_ver (vs : List Ver) (n t : Nat) : valV (vs.map fun v => (verK v, V.bl v.2.2)) [.inl n, .inl t] = (tbOf vs n t).map V.bl := by
  unfold tbOf
  induction vs with
  | nil => rfl
  | cons v vs ih =>
    rw [List.map_cons, List.find?_cons]
    by_cases h : v.1 = n ∧ v.2.1 = t
    · rw [valV_pos (by show verK v = _; rw [← h.1, ← h.2]; rfl), decide_eq_true h]
      rfl
    · rw [valV_neg (by
        intro z
        have z' : verK v = verK (n, t, true) := z
        have := verK_inj z'
        exact h ⟨congrArg Prod.fst this, congrArg Prod.snd this⟩), ih, decide_eq_false h]
theorem tab_ver {vs : List Ver} (h : (vs.map fun v => (v.1, v.2.1)).Nodup) : TabOk (verT vs) (tbOf vs) := ⟨fun n t => by rw [verT_eq h]; exact valV_ver vs n t⟩

end

section
variable [Tbs] {P : Program} {w : World} {K : PySem.W.Frag} {mg : Str → Option Value} {base : Heap}
abbrev s__law_dice : Stmt := top 40
abbrev N__law_dice : List Str := ["_law_script", "_law_k", "_law_found", "_law_cell"]
abbrev P__law_dice : List Str := ["_law_script", "_law_k"]
theorem sc__law_dice : FnScope N__law_dice P__law_dice (defScope s__law_dice) := ⟨rfl, rfl, rfl, by decide +kernel, rfl, by decide +kernel, by decide +kernel⟩

def sp__law_dice (K : PySem.W.Frag) : Sp := fun vs H Q _ => ∃ (a : Addr) (ns : List Int), vs = [.ref a, .int 0] ∧ SqL K H a (ns.map V.int) ∧ ns.length ≤ 63 ∧
  ∀ p ms H', H p = none → Ex H H' → H' p = some (.lst (ms.map V.int)) → DOk ms → Q (.ref p) H'
theorem ok__law_dice {f : Addr} {fd : FuncData} (F : Fun K "_law_dice" "_law_dice" s__law_dice f fd) (T : Tx K mg) : FnOk P w K mg base CX0 1 f fd P__law_dice (sp__law_dice K) := by
  refine F.ok sc__law_dice (fun vs H Q E h => ?_) (fun cdv A outer s H vs Q E hr h => ?_)
  · obtain ⟨a, ns, rfl, _⟩ := h
    rfl
  · obtain ⟨a, ns, rfl, hs, hl, q⟩ := h
    refine ⟨_, (pss_cons (ps_set (i := 2) sc__law_dice.nd rfl (by first | exact Or.inl rfl | exact Or.inr rfl) (pv 1))
    (pss_cons (ps_for PassesOwn.never rfl (pi_seqK K rfl (pv 0)) (pg_name (i := 3) sc__law_dice.nd rfl (by first | exact Or.inl rfl | exact Or.inr rfl)) (pss_one (ps_set (i := 2) sc__law_dice.nd rfl (by first | exact Or.inl rfl | exact Or.inr rfl) (pe_op op_mod (pe_op (op_addK K rfl) (pe_op op_mulA (pv 2) pe_int) (pe_callB call_abs (by rfl) T.n_abs (by decide +kernel) (pa_cons (pv 3) pa_nil))) pe_int))))
    (pss_one (ps_ret (pe_op (op_addK K rfl) (pe_lst (pa_cons (pv 2) (pa_cons pe_int pa_nil))) (pe_lc (own := [("_law_cell", 3)]) (g := gName 3) (tt := _) rfl sc__law_dice.nd (pi_seqK K rfl (pv 0)) (blkOk_by (own := [("_law_cell", 3)]) (N := N__law_dice) (sc := defScope s__law_dice) (by decide +kernel)) (fun _ _ _ _ _ => (pg_name (i := 3) sc__law_dice.nd rfl (by first | exact Or.inl rfl | exact Or.inr rfl))) (fun _ _ _ _ _ => (pts_one (pt_cmpR op_ge (pv 3) (pe_op op_pow pe_int pe_int) (nomark _)))) (fun _ _ _ _ _ => (pv 3)))))))), ?_⟩
    try dsimp only [cxOf, Cx.nox, Cx.wish]
    refine q_asg (K := K) (d := .int 0) (Ex.refl H) (e_var rfl (.int _)) fun v G1 H1 s1 r1 => ?_
    cases r1
    refine q_for (K := K) (n := ns.length) (js := [3]) (E := fun i => [nth (ns.map D.int) i]) s1 (i_script (q := a) rfl (ex_l s1.g hs)) (fun i hi => g_name)
      (fun i σ' G' H' => ∃ (z : Int) (w9 : Option V), σ' = [some (.ref a), some (.int 0), some (.int z), w9] ∧ 0 ≤ z ∧ z < 2147483647) (fun G2 H2 s2 => ⟨0, none, rfl, by decide, by decide⟩) ?_ ?_
    · rintro Gw ew i hi σ' G' H' S' ew' ⟨z, w', rfl, h0, h1⟩ G2 H2 us s2 ru
      rw [nth_map (List.getElem?_eq_getElem hi)] at ru
      obtain ⟨b, rfl, rb⟩ := ru.one
      cases rb
      refine s_asg s2.i (d := .int ((z * 31 + (if ns[i] < 0 then -ns[i] else ns[i])) % 2147483647)) (e_mod (e_addI (e_mulI (e_var rfl (.int _)) e_int (.inl ⟨by omega, by omega⟩)) (e_abs (e_var rfl (.int _)))) e_int (by decide)) fun v3 G3 H3 s3 r3 => ?_
      cases r3
      exact ⟨G3, (S'.trans s2).trans s3, ew'.trans (s2.g.trans s3.g), _, _, rfl, Int.emod_nonneg _ (by decide), Int.emod_lt_of_pos _ (by decide)⟩
    · rintro σ' G' H' S' ew ⟨z, w', rfl, h0, h1⟩
      have hs' := ex_l S'.g hs
      refine s_retF (K := K) (ds := (z :: 0 :: ns.filter fun n => decide ((10 : Int) ^ (18 : Int).toNat ≤ n)).map D.int) S'.i (EvF.eq (f_cat (ds := [.int z, .int 0]) (EvF.toD (f_lst (a_cons (e_var rfl (.int _)) (a_one e_int)) (by show 2 ≤ 100000; decide)))
        (EvF.toD (f_lcm (xs := ns) (Y := nth (ns.map D.int)) (js := [3]) (fun _ n => [.int n]) (fun n => decide ((10 : Int) ^ (18 : Int).toNat ≤ n)) D.int (i_script (q := a) rfl hs') (fun i x hx => by rw [nth_map hx]; exact g_name) (by omega) (fun _ _ _ => rfl)
          (fun us h => match us, h with | [_], _ => rfl) (fun i x hx G2 e2 us ru => ?_) (fun i x hx _ G2 e2 us ru => ?_))) ?_) rfl) fun p xs G2 H2 s2 h2 h3 h4 r2 => ?_
      · obtain ⟨y, rfl, ry⟩ := ru.one
        exact b_test (e_ge (e_var rfl ry) (e_pow e_int e_int ⟨by decide, by decide, by decide⟩))
      · obtain ⟨y, rfl, ry⟩ := ru.one
        exact e_var rfl ry
      · have := List.length_filter_le (fun n => decide ((10 : Int) ^ (18 : Int).toNat ≤ n)) ns
        rw [List.length_map]
        show 2 + _ ≤ _
        omega
      · have hxs := r2.ints
        subst hxs
        refine q p _ H2 (S'.pre h2) (S'.h.trans s2.h) h4 ⟨z, 0, _, rfl, ⟨h0, h1⟩, Int.le_refl _, fun x hx => ?_, ?_⟩
        · have := of_decide_eq_true (List.mem_filter.mp hx).2
          have h18 : (0 : Int) ≤ (10 : Int) ^ (18 : Int).toNat := by decide
          omega
        · have := List.length_filter_le (fun n => decide ((10 : Int) ^ (18 : Int).toNat ≤ n)) ns
          omega

end

section
variable [Tbs] {P : Program} {w : World} {K : PySem.W.Frag} {mg : Str → Option Value} {base : Heap}
abbrev s__law_off : Stmt := top 41
abbrev N__law_off : List Str := ["_law_d", "_law_most", "_law_found"]
abbrev P__law_off : List Str := ["_law_d", "_law_most"]
theorem sc__law_off : FnScope N__law_off P__law_off (defScope s__law_off) := ⟨rfl, rfl, rfl, by decide +kernel, rfl, by decide +kernel, by decide +kernel⟩

abbrev sp__law_off (K : PySem.W.Frag) : Sp := spR K Pre_off R_off
theorem DOk.step {a b : Int} {rest : List Int} (a0 : 0 ≤ a ∧ a < 2147483647) (b0 : 0 ≤ b) (r0 : ∀ x ∈ rest, 0 ≤ x) (rl : rest.length ≤ 63) : DOk (a :: b :: rest) := ⟨a, b, rest, rfl, a0, b0, r0, rl⟩
theorem ok__law_off {f : Addr} {fd : FuncData} (F : Fun K "_law_off" "_law_off" s__law_off f fd) (T : Tx K mg) : FnOk P w K mg base CX0 1 f fd P__law_off (sp__law_off K) := by
  refine F.ok sc__law_off (fun vs H Q E h => ?_) (fun cdv A outer s H vs Q E hr h => ?_)
  · obtain ⟨p, ws, G, ds, rfl, e, g, dc, ra, ⟨m, rfl, _⟩, _⟩ := h
    have := ra.len
    show _ + 1 = 2
    rw [this]
    rfl
  · obtain ⟨p, ws, G, ds, rfl, e, g, ⟨ms, hm, a, b, rest, rfl, a0, b0, r0, rl⟩, ra, ⟨m, rfl, m0, m1⟩, q⟩ := h
    obtain ⟨v1, rfl, rv⟩ := ra.one
    cases rv
    refine ⟨_, (Evl.pss_cut (ps_if (PW.pt (pw_and (pt_cmpR (op_eqK K rfl hr.units) (pe_ix (ix_seqK K rfl) (pv 0) pe_int (fun _ _ => rfl)) pe_int (nomark _)) (pw_and1 (pt_cmpR op_gt (pe_callB (call_lenK K rfl) (by rfl) T.n_len (by decide +kernel) (pa_cons (pv 0) pa_nil)) pe_int (nomark _))))) (pss_one (ps_asg (pe_bm PySem.F.plainAttrs_list PySem.F.slot_list_pop PySem.F.type_list_pop mt_popAt (pv 0) (pa_cons pe_int pa_nil)) (pg_sub (pv 0) pe_int set_list))) pss_nil)
    (pss_cons (ps_if (pt_cmpR op_gt (pe_ix (ix_seqK K rfl) (pv 0) pe_int (fun _ _ => rfl)) pe_int (nomark _)) (pss_cons (ps_set (i := 2) sc__law_off.nd rfl (by first | exact Or.inl rfl | exact Or.inr rfl) (pe_op op_mod (pe_ix (ix_seqK K rfl) (pv 0) pe_int (fun _ _ => rfl)) (pv 1)))
    (pss_cons (ps_asg (pe_op op_fdiv (pe_ix (ix_seqK K rfl) (pv 0) pe_int (fun _ _ => rfl)) (pv 1)) (pg_sub (pv 0) pe_int set_list))
    (pss_one (ps_ret (pv 2))))) pss_nil)
    (pss_cons (ps_asg (pe_op op_mod (pe_op (op_addK K rfl) (pe_op op_mulA (pe_ix (ix_seqK K rfl) (pv 0) pe_int (fun _ _ => rfl)) pe_int) pe_int) pe_int) (pg_sub (pv 0) pe_int set_list))
    (pss_one (ps_ret (pe_op op_mod (pe_op op_fdiv (pe_ix (ix_seqK K rfl) (pv 0) pe_int (fun _ _ => rfl)) pe_int) (pv 1))))))), ?_⟩
    try dsimp only [cxOf, Cx.nox, Cx.wish]
    have rp : ∀ (G : Hp) (ms : List Int), Rp K (upd G p (.lst (ms.map V.int))) (.ref p) (.lst (ms.map D.int)) := fun G ms => .lst upd_same RpA.of_ints
    refine Evl.q_cut (M := fun σ' H1 => σ' = [some (.ref p), some (.int m), none] ∧ ∃ (b' : Int) (rest' : List Int) (G1 : Hp), Step G (hide p H) G1 H1 ∧ G1 p = none ∧ H1 p = some (.lst ((a :: b' :: rest').map V.int)) ∧ 0 ≤ b' ∧ (∀ x ∈ rest', 0 ≤ x) ∧ rest'.length ≤ 63) ?_ ?_
    · refine s_ifO (b := decide (b = 0) && decide ((2 : Int) < ((a :: b :: rest).length : Nat))) e g hm (b_and (b_test (e_eq (d1 := .int b) (e_ix (d1 := .lst ((a :: b :: rest).map D.int)) (e_var rfl (rp _ _)) e_int (at_mapL (k := 1) rfl)) e_int rfl)) fun _ =>
        b_test (e_gt (e_len (d := .lst ((a :: b :: rest).map D.int)) (e_var rfl (rp _ _)) (congrArg some (List.length_map _))) e_int)) (fun hb G1 H1 s1 g1 x1 => ?_) (fun hb G1 H1 s1 g1 x1 => ?_)
      · obtain ⟨hb0, hb1⟩ := (Bool.and_eq_true _ _).mp hb
        have hl : 2 < (a :: b :: rest).length := by have := of_decide_eq_true hb1; omega
        cases rest with
        | nil => exact absurd hl (by show ¬ 2 < 2; omega)
        | cons c rest =>
          have hi2 : ixN ((a :: b :: c :: rest).map V.int).length 2 = some 2 := Evl.ixN_nat (j := 2) (by rw [List.length_map]; exact hl)
          refine ⟨_, rfl, .inl ⟨rfl, _, .of x1⟩, p, _, 2, 2, .int c, rfl, rfl, x1, by decide, by decide, (ixN_seq hi2).1, rfl, _, rfl, p, _, 1, 1, rfl, rfl, upd_same, Evl.ixN_nat (j := 1) (by simp), ?_⟩
          rw [upd_upd]
          refine ⟨rfl, c, rest, G1, ((s1.toR g ⟨_, hm, DOk.step a0 b0 r0 rl⟩).1).mut hide_p g1, g1, upd_same, r0 c List.mem_cons_self, fun x hx => r0 x (List.mem_cons_of_mem _ hx), ?_⟩
          rw [List.length_cons] at rl
          omega
      · exact ⟨rfl, b, rest, G1, (s1.toR g ⟨_, hm, DOk.step a0 b0 r0 rl⟩).1, g1, x1, b0, r0, rl⟩
    · rintro σ' H1 ⟨rfl, b', rest', G1, S1, g1, x1, hb0, hr0, hrl⟩
      have dc1 : DOk (a :: b' :: rest') := DOk.step a0 hb0 hr0 hrl
      refine q_whenO (b := decide ((0 : Int) < b')) S1.i g1 x1 (b_test (e_gt (i := b') (e_ix (d1 := .lst ((a :: b' :: rest').map D.int)) (e_var rfl (rp _ _)) e_int (at_mapL (k := 1) rfl)) e_int)) (fun hb G2 H2 s2 g2 x2 => ?_) (fun hb G2 H2 s2 g2 x2 => ?_)
      · have S2 := S1.transR (s2.toR g1 ⟨_, x1, dc1⟩).1 ⟨_, x1, dc1⟩
        refine q_asgO (K := K) (d := .int (b' % (m : Int))) s2.i g2 x2 (e_mod (e_ix (d1 := .lst ((a :: b' :: rest').map D.int)) (e_var rfl (rp _ _)) e_int (at_mapL (k := 1) rfl)) (e_var rfl (.int _)) (by omega)) rfl fun v G3 H3 s3 g3 x3 r3 => ?_
        cases r3
        have S3 := S2.transR (s3.toR g2 ⟨_, x2, dc1⟩).1 ⟨_, x2, dc1⟩
        refine q_setO (K := K) (j := 1) (d := .int (b' / (m : Int))) s3.i g3 x3 rfl (e_fdiv (e_ix (d1 := .lst ((a :: b' :: rest').map D.int)) (e_var rfl (rp _ _)) e_int (at_mapL (k := 1) rfl)) (e_var rfl (.int _)) ⟨by omega, by omega⟩) rfl (by rw [List.length_map]; show 1 < _ + 2; omega) fun G4 H4 s4 g4 => ?_
        have S4 := (S3.transR (s4.toR g3 ⟨_, x3, dc1⟩).1 ⟨_, x3, dc1⟩).mut (o := .lst ((a :: (b' / (m : Int)) :: rest').map V.int)) hide_p g4
        refine ⟨_, rfl, q _ (.int (b' % (m : Int))) G4 _ S4 g4 ⟨_, upd_same, DOk.step a0 (Int.ediv_nonneg hb0 (by omega)) hr0 hrl⟩ ⟨m, rfl, (b' % (m : Int)).toNat, ?_, ?_⟩ (.int _)⟩
        · have := Int.emod_nonneg b' (show (m : Int) ≠ 0 by omega)
          exact congrArg D.int (by omega)
        · have h1 := Int.emod_nonneg b' (show (m : Int) ≠ 0 by omega)
          have h2 := Int.emod_lt_of_pos b' (show (0 : Int) < m by omega)
          omega
      · have S2 := S1.transR (s2.toR g1 ⟨_, x1, dc1⟩).1 ⟨_, x1, dc1⟩
        generalize hz : (a * 48271 + 11) % 2147483647 = z
        refine q_setO (K := K) (j := 0) (d := .int z) s2.i g2 x2 rfl (EvD.int (e_mod (e_addI (e_mulI (i := a) (e_ix (d1 := .lst ((a :: b' :: rest').map D.int)) (e_var rfl (rp _ _)) e_int (at_mapL (k := 0) rfl)) e_int (.inl ⟨by omega, by omega⟩)) e_int) e_int (by decide)) hz) rfl (by rw [List.length_map]; show 0 < _ + 2; omega) fun G3 H3 s3 g3 => ?_
        have z0 : 0 ≤ z ∧ z < 2147483647 := by
          rw [← hz]
          exact ⟨Int.emod_nonneg _ (by decide), Int.emod_lt_of_pos _ (by decide)⟩
        have S3 := (S2.transR (s3.toR g2 ⟨_, x2, dc1⟩).1 ⟨_, x2, dc1⟩).mut (o := .lst ((z :: b' :: rest').map V.int)) hide_p g3
        have dc3 : DOk (z :: b' :: rest') := DOk.step z0 hb0 hr0 hrl
        refine s_retO (K := K) (o := .lst ((z :: b' :: rest').map V.int)) (d := .int (z / 64 % (m : Int))) S3.i g3 upd_same (e_mod (e_fdiv (e_ix (d1 := .lst ((z :: b' :: rest').map D.int)) (e_var rfl (rp _ _)) e_int (at_mapL (k := 0) rfl)) e_int ⟨by decide, by decide⟩) (e_var rfl (.int _)) (by omega)) rfl fun v G4 H4 s4 g4 x4 r4 => ?_
        refine q v _ G4 H4 (S3.transR (s4.toR g3 ⟨_, upd_same, dc3⟩).1 ⟨_, upd_same, dc3⟩) g4 ⟨_, x4, dc3⟩ ⟨m, rfl, (z / 64 % (m : Int)).toNat, ?_, ?_⟩ r4
        · have := Int.emod_nonneg (z / 64) (show (m : Int) ≠ 0 by omega)
          exact congrArg D.int (by omega)
        · have h1 := Int.emod_nonneg (z / 64) (show (m : Int) ≠ 0 by omega)
          have h2 := Int.emod_lt_of_pos (z / 64) (show (0 : Int) < m by omega)
          omega

end

section
variable [Tbs] {P : Program} {w : World} {K : PySem.W.Frag} {mg : Str → Option Value} {base : Heap}
/-- data of at most n levels -/
inductive Fit : Nat → D → Prop
  | non {n : Nat} : Fit (n + 1) .non
  | bl {n : Nat} (b : Bool) : Fit (n + 1) (.bl b)
  | int {n : Nat} (i : Int) : Fit (n + 1) (.int i)
  | str {n : Nat} (s : Str) : Fit (n + 1) (.str s)
  | tup {n : Nat} {ds : List D} (hl : ds.length ≤ 1000000) (h : ∀ d ∈ ds, Fit n d) : Fit (n + 1) (.tup ds)
  | lst {n : Nat} {ds : List D} (hl : ds.length ≤ 1000000) (h : ∀ d ∈ ds, Fit n d) : Fit (n + 1) (.lst ds)

end

section
variable [Tbs] {P : Program} {w : World} {K : PySem.W.Frag} {mg : Str → Option Value} {base : Heap}
abbrev s__law_alike : Stmt := top 42
abbrev N__law_alike : List Str := ["_law_found", "_law_due", "_law_k"]
abbrev P__law_alike : List Str := ["_law_found", "_law_due"]
theorem sc__law_alike : FnScope N__law_alike P__law_alike (defScope s__law_alike) := ⟨rfl, rfl, rfl, by decide +kernel, rfl, by decide +kernel, by decide +kernel⟩

def R_alike (n : Nat) (ds : List D) (r : D) : Prop := ∃ d, ds = [d, d] ∧ Fit n d ∧ r = .bl true
abbrev sp__law_alike (n : Nat) (K : PySem.W.Frag) : Sp := spP K (R_alike n)
theorem ok__law_alike {f : Addr} {fd : FuncData} (F : Fun K "_law_alike" "_law_alike" s__law_alike f fd) (T : Tx K mg) (b : Binds K fd P__law_alike []) (m : mg "_law_alike" = some (.ref f)) : ∀ n, FnOk P w K mg base CX0 n f fd P__law_alike (sp__law_alike n K)
  | 0 => ⟨fun vs H Q E h => (by
      obtain ⟨G, ds, r, e, ra, ⟨d, rfl, hf, _⟩, q⟩ := h
      cases hf), fun A outer s H args us vs Q E hr h1 h2 h3 h => (by
      obtain ⟨G, ds, r, e, ra, ⟨d, rfl, hf, _⟩, q⟩ := h
      cases hf)⟩
  | n + 1 => by
    have d__law_alike : Dk P w K mg base n "_law_alike" P__law_alike (sp__law_alike n K) := ⟨f, fd, ok__law_alike F T b m n, b, m, F.kp⟩
    refine F.ok sc__law_alike (fun vs H Q E h => ?_) (fun cdv A outer s H vs Q E hr h => ?_)
    · obtain ⟨G, ds, r, e, ra, ⟨d, rfl, hf, _⟩, q⟩ := h
      exact ra.len
    · obtain ⟨G, ds, r, e, ra, ⟨d, rfl, hf, rfl⟩, q⟩ := h
      obtain ⟨v0, v1, rfl, r0, r1⟩ := ra.two
      refine ⟨_, (pss_cons (ps_if (pt_cmpR op_isN (pv 1) pe_non (nomark _)) (pss_one (ps_ret (pe_cmpR op_isN (pv 0) pe_non (nomark _)))) pss_nil)
    (pss_cons (ps_if (pt_val (pe_callB (call_isiK' K rfl) (by rfl) T.n_isinstance (by decide +kernel) (pa_cons (pv 1) (pa_cons (pe_ty (n := "bool") (by rfl) T.n_bool (by decide +kernel)) pa_nil)))) (pss_one (ps_ret (pe_and (pe_callB (call_isiK' K rfl) (by rfl) T.n_isinstance (by decide +kernel) (pa_cons (pv 0) (pa_cons (pe_ty (n := "bool") (by rfl) T.n_bool (by decide +kernel)) pa_nil))) (pe_one (pe_cmpR (op_eqK K rfl hr.units) (pv 0) (pv 1) (nomark _)))))) pss_nil)
    (pss_cons (ps_if (pt_val (pe_callB (call_isiK' K rfl) (by rfl) T.n_isinstance (by decide +kernel) (pa_cons (pv 1) (pa_cons (pe_ty (n := "int") (by rfl) T.n_int (by decide +kernel)) pa_nil)))) (pss_one (ps_ret (pe_and (pe_callB (call_isiK' K rfl) (by rfl) T.n_isinstance (by decide +kernel) (pa_cons (pv 0) (pa_cons (pe_ty (n := "int") (by rfl) T.n_int (by decide +kernel)) pa_nil))) (pe_and (pe_not (pe_callB (call_isiK' K rfl) (by rfl) T.n_isinstance (by decide +kernel) (pa_cons (pv 0) (pa_cons (pe_ty (n := "bool") (by rfl) T.n_bool (by decide +kernel)) pa_nil)))) (pe_one (pe_cmpR (op_eqK K rfl hr.units) (pv 0) (pv 1) (nomark _))))))) pss_nil)
    (pss_cons (ps_if (pt_val (pe_callB (call_isiK' K rfl) (by rfl) T.n_isinstance (by decide +kernel) (pa_cons (pv 1) (pa_cons (pe_ty (n := "str") (by rfl) T.n_str (by decide +kernel)) pa_nil)))) (pss_one (ps_ret (pe_and (pe_callB (call_isiK' K rfl) (by rfl) T.n_isinstance (by decide +kernel) (pa_cons (pv 0) (pa_cons (pe_ty (n := "str") (by rfl) T.n_str (by decide +kernel)) pa_nil))) (pe_one (pe_cmpR (op_eqK K rfl hr.units) (pv 0) (pv 1) (nomark _)))))) pss_nil)
    (pss_cons (ps_if (PW.pt (pw_or (pt_cmpR (op_neK K rfl hr.units) (pe_callB (call_isiK' K rfl) (by rfl) T.n_isinstance (by decide +kernel) (pa_cons (pv 1) (pa_cons (pe_ty (n := "tuple") (by rfl) T.n_tuple (by decide +kernel)) pa_nil))) (pe_callB (call_isiK' K rfl) (by rfl) T.n_isinstance (by decide +kernel) (pa_cons (pv 0) (pa_cons (pe_ty (n := "tuple") (by rfl) T.n_tuple (by decide +kernel)) pa_nil))) (nomark _)) (pw_or1 (pt_cmpR (op_neK K rfl hr.units) (pe_callB (call_isiK' K rfl) (by rfl) T.n_isinstance (by decide +kernel) (pa_cons (pv 1) (pa_cons (pe_ty (n := "list") (by rfl) T.n_list (by decide +kernel)) pa_nil))) (pe_callB (call_isiK' K rfl) (by rfl) T.n_isinstance (by decide +kernel) (pa_cons (pv 0) (pa_cons (pe_ty (n := "list") (by rfl) T.n_list (by decide +kernel)) pa_nil))) (nomark _))))) (pss_one (ps_ret pe_bl)) pss_nil)
    (pss_cons (ps_if (pt_cmpR (op_neK K rfl hr.units) (pe_callB (call_lenK K rfl) (by rfl) T.n_len (by decide +kernel) (pa_cons (pv 0) pa_nil)) (pe_callB (call_lenK K rfl) (by rfl) T.n_len (by decide +kernel) (pa_cons (pv 1) pa_nil)) (nomark _)) (pss_one (ps_ret pe_bl)) pss_nil)
    (pss_one (ps_ret (pe_callB (cr_allK K rfl rfl) (by rfl) T.n_all (by decide +kernel) (pa_cons (pe_lc (own := [("_law_k", 2)]) (g := gName 2) (tt := tYes) rfl sc__law_alike.nd (pi_range1 (by rfl) T.n_range (pa_cons (pe_callB (call_lenK K rfl) (by rfl) T.n_len (by decide +kernel) (pa_cons (pv 1) pa_nil)) pa_nil)) (blkOk_by (own := [("_law_k", 2)]) (N := N__law_alike) (sc := defScope s__law_alike) (by decide +kernel)) (fun _ _ _ _ _ => (pg_name (i := 2) sc__law_alike.nd rfl (by first | exact Or.inl rfl | exact Or.inr rfl))) (fun _ _ _ _ _ => pts_nil) (fun _ _ _ _ _ => (pe_fn d__law_alike hr (by rfl) (pa_cons (pe_ix (ix_seqK K rfl) (pv 0) (pv 2) (fun _ _ => rfl)) (pa_cons (pe_ix (ix_seqK K rfl) (pv 1) (pv 2) (fun _ _ => rfl)) pa_nil))))) pa_nil)))))))))), ?_⟩
      try dsimp only [cxOf, Cx.nox, Cx.wish]
      cases hf with
      | non =>
        refine q_when (b := true) e (b_test (e_isN (e_var rfl r1) rfl)) (fun _ G1 H1 s1 => ?_) (fun z => nomatch z)
        exact s_ret s1.i (e_isN (e_var rfl (r0.ex s1.g)) rfl) fun v G2 H2 s2 r2 => q v G2 H2 (s1.trans s2) r2
      | bl x =>
        refine q_no e (b_test (e_isN (e_var rfl r1) rfl)) fun G1 H1 s1 => ?_
        have S1 := s1
        have r0 := r0.ex s1.g
        have r1 := r1.ex s1.g
        refine q_when (b := true) S1.i (b_B (e_isi (e_var rfl r1) rfl rfl)) (fun _ G2 H2 s2 => ?_) (fun z => nomatch z)
        have S2 := S1.trans s2
        have r0 := r0.ex s2.g
        have r1 := r1.ex s2.g
        exact s_ret S2.i (e_andT (e_isi (e_var rfl r0) rfl rfl) (EvD.bl (e_eq (e_var rfl r0) (e_var rfl r1) rfl) (decide_eq_true rfl))) fun v G9 H9 s9 r9 => q v G9 H9 (S2.trans s9) r9
      | int x =>
        refine q_no e (b_test (e_isN (e_var rfl r1) rfl)) fun G1 H1 s1 => ?_
        have S1 := s1
        have r0 := r0.ex s1.g
        have r1 := r1.ex s1.g
        refine q_no S1.i (b_B (e_isi (e_var rfl r1) rfl rfl)) fun G2 H2 s2 => ?_
        have S2 := S1.trans s2
        have r0 := r0.ex s2.g
        have r1 := r1.ex s2.g
        refine q_when (b := true) S2.i (b_B (e_isi (e_var rfl r1) rfl rfl)) (fun _ G3 H3 s3 => ?_) (fun z => nomatch z)
        have S3 := S2.trans s3
        have r0 := r0.ex s3.g
        have r1 := r1.ex s3.g
        exact s_ret S3.i (e_andT (e_isi (e_var rfl r0) rfl rfl) (e_andT (EvD.bl (e_not (a := false) (e_isi (e_var rfl r0) rfl rfl)) rfl) (EvD.bl (e_eq (e_var rfl r0) (e_var rfl r1) rfl) (decide_eq_true rfl)))) fun v G9 H9 s9 r9 => q v G9 H9 (S3.trans s9) r9
      | str x =>
        refine q_no e (b_test (e_isN (e_var rfl r1) rfl)) fun G1 H1 s1 => ?_
        have S1 := s1
        have r0 := r0.ex s1.g
        have r1 := r1.ex s1.g
        refine q_no S1.i (b_B (e_isi (e_var rfl r1) rfl rfl)) fun G2 H2 s2 => ?_
        have S2 := S1.trans s2
        have r0 := r0.ex s2.g
        have r1 := r1.ex s2.g
        refine q_no S2.i (b_B (e_isi (e_var rfl r1) rfl rfl)) fun G3 H3 s3 => ?_
        have S3 := S2.trans s3
        have r0 := r0.ex s3.g
        have r1 := r1.ex s3.g
        refine q_when (b := true) S3.i (b_B (e_isi (e_var rfl r1) rfl rfl)) (fun _ G4 H4 s4 => ?_) (fun z => nomatch z)
        have S4 := S3.trans s4
        have r0 := r0.ex s4.g
        have r1 := r1.ex s4.g
        exact s_ret S4.i (e_andT (e_isi (e_var rfl r0) rfl rfl) (EvD.bl (e_eq (e_var rfl r0) (e_var rfl r1) rfl) (decide_eq_true rfl))) fun v G9 H9 s9 r9 => q v G9 H9 (S4.trans s9) r9
      | tup hl h =>
        rename_i ds
        refine q_no e (b_test (e_isN (e_var rfl r1) rfl)) fun G1 H1 s1 => ?_
        have S1 := s1
        have r0 := r0.ex s1.g
        have r1 := r1.ex s1.g
        refine q_no S1.i (b_B (e_isi (e_var rfl r1) rfl rfl)) fun G2 H2 s2 => ?_
        have S2 := S1.trans s2
        have r0 := r0.ex s2.g
        have r1 := r1.ex s2.g
        refine q_no S2.i (b_B (e_isi (e_var rfl r1) rfl rfl)) fun G3 H3 s3 => ?_
        have S3 := S2.trans s3
        have r0 := r0.ex s3.g
        have r1 := r1.ex s3.g
        refine q_no S3.i (b_B (e_isi (e_var rfl r1) rfl rfl)) fun G4 H4 s4 => ?_
        have S4 := S3.trans s4
        have r0 := r0.ex s4.g
        have r1 := r1.ex s4.g
        refine q_no S4.i (b_orF (b_test (EvD.bl (e_ne (d1 := .bl true) (d2 := .bl true) (e_isi (e_var rfl r1) rfl rfl) (e_isi (e_var rfl r0) rfl rfl) rfl) rfl)) (b_test (EvD.bl (e_ne (d1 := .bl false) (d2 := .bl false) (e_isi (e_var rfl r1) rfl rfl) (e_isi (e_var rfl r0) rfl rfl) rfl) rfl))) fun G5 H5 s5 => ?_
        have S5 := S4.trans s5
        have r0 := r0.ex s5.g
        have r1 := r1.ex s5.g
        refine q_no S5.i (b_test (EvD.bl (e_ne (e_len (e_var rfl r0) rfl) (e_len (e_var rfl r1) rfl) rfl) (congrArg not (decide_eq_true rfl)))) fun G6 H6 s6 => ?_
        have S6 := S5.trans s6
        have r0 := r0.ex s6.g
        have r1 := r1.ex s6.g
        refine s_ret S6.i (EvD.bl (e_all (bs := List.replicate ds.length true) (EvF.toD (f_lc (n := ds.length) (js := [2]) (fun i => [.int i]) (fun _ => true) (fun _ => .bl true) (i_rng1' (e_len (e_var rfl r1) rfl) hl) (fun _ _ => g_name) hl (fun _ _ => rfl) (fun us h => match us, h with | [_], _ => rfl) (fun _ _ _ _ _ _ => b_yes) (fun i hi _ G7 e7 us ru => ?_))) ?_) ?_) fun v G9 H9 s9 r9 => q v G9 H9 (S6.trans s9) r9
        · obtain ⟨w, rfl, rw⟩ := ru.one
          cases rw
          have hd : D.at (.tup ds) (i : Int) = some ds[i] := atI_nat (List.getElem?_eq_getElem hi)
          exact e_call (a_cons (e_ix (e_var rfl (r0.ex e7)) (e_var rfl (.int _)) hd) (a_one (e_ix (e_var rfl (r1.ex e7)) (e_var rfl (.int _)) hd))) ⟨_, rfl, h _ (List.getElem_mem hi), rfl⟩
        · unfold pick
          rw [List.filter_eq_self.mpr (fun _ _ => rfl), List.map_replicate, List.map_const', List.length_range]
        · rw [List.all_replicate]
          split <;> rfl
      | lst hl h =>
        rename_i ds
        refine q_no e (b_test (e_isN (e_var rfl r1) rfl)) fun G1 H1 s1 => ?_
        have S1 := s1
        have r0 := r0.ex s1.g
        have r1 := r1.ex s1.g
        refine q_no S1.i (b_B (e_isi (e_var rfl r1) rfl rfl)) fun G2 H2 s2 => ?_
        have S2 := S1.trans s2
        have r0 := r0.ex s2.g
        have r1 := r1.ex s2.g
        refine q_no S2.i (b_B (e_isi (e_var rfl r1) rfl rfl)) fun G3 H3 s3 => ?_
        have S3 := S2.trans s3
        have r0 := r0.ex s3.g
        have r1 := r1.ex s3.g
        refine q_no S3.i (b_B (e_isi (e_var rfl r1) rfl rfl)) fun G4 H4 s4 => ?_
        have S4 := S3.trans s4
        have r0 := r0.ex s4.g
        have r1 := r1.ex s4.g
        refine q_no S4.i (b_orF (b_test (EvD.bl (e_ne (d1 := .bl false) (d2 := .bl false) (e_isi (e_var rfl r1) rfl rfl) (e_isi (e_var rfl r0) rfl rfl) rfl) rfl)) (b_test (EvD.bl (e_ne (d1 := .bl true) (d2 := .bl true) (e_isi (e_var rfl r1) rfl rfl) (e_isi (e_var rfl r0) rfl rfl) rfl) rfl))) fun G5 H5 s5 => ?_
        have S5 := S4.trans s5
        have r0 := r0.ex s5.g
        have r1 := r1.ex s5.g
        refine q_no S5.i (b_test (EvD.bl (e_ne (e_len (e_var rfl r0) rfl) (e_len (e_var rfl r1) rfl) rfl) (congrArg not (decide_eq_true rfl)))) fun G6 H6 s6 => ?_
        have S6 := S5.trans s6
        have r0 := r0.ex s6.g
        have r1 := r1.ex s6.g
        refine s_ret S6.i (EvD.bl (e_all (bs := List.replicate ds.length true) (EvF.toD (f_lc (n := ds.length) (js := [2]) (fun i => [.int i]) (fun _ => true) (fun _ => .bl true) (i_rng1' (e_len (e_var rfl r1) rfl) hl) (fun _ _ => g_name) hl (fun _ _ => rfl) (fun us h => match us, h with | [_], _ => rfl) (fun _ _ _ _ _ _ => b_yes) (fun i hi _ G7 e7 us ru => ?_))) ?_) ?_) fun v G9 H9 s9 r9 => q v G9 H9 (S6.trans s9) r9
        · obtain ⟨w, rfl, rw⟩ := ru.one
          cases rw
          have hd : D.at (.lst ds) (i : Int) = some ds[i] := atI_nat (List.getElem?_eq_getElem hi)
          exact e_call (a_cons (e_ix (e_var rfl (r0.ex e7)) (e_var rfl (.int _)) hd) (a_one (e_ix (e_var rfl (r1.ex e7)) (e_var rfl (.int _)) hd))) ⟨_, rfl, h _ (List.getElem_mem hi), rfl⟩
        · unfold pick
          rw [List.filter_eq_self.mpr (fun _ _ => rfl), List.map_replicate, List.map_const', List.length_range]
        · rw [List.all_replicate]
          split <;> rfl

end

section
variable [Tbs] {P : Program} {w : World} {K : PySem.W.Frag} {mg : Str → Option Value} {base : Heap}
abbrev s__law_mixed : Stmt := top 43
abbrev N__law_mixed : List Str := ["_law_d", "_law_row", "_law_left", "_law_found"]
abbrev P__law_mixed : List Str := ["_law_d", "_law_row"]
theorem sc__law_mixed : FnScope N__law_mixed P__law_mixed (defScope s__law_mixed) := ⟨rfl, rfl, rfl, by decide +kernel, rfl, by decide +kernel, by decide +kernel⟩

/-- data that may be compared -/
def D.low (d : D) : Bool := d.plain && d.py.canLay0 && decide (d.py.depth ≤ 32)
theorem low_lst : ∀ {ds : List D}, (∀ d ∈ ds, d.low = true) → D.plainA ds = true ∧ PyData.canLayAll0 (D.pyA ds) = true ∧ PyData.depthAll (D.pyA ds) ≤ 32
  | [], _ => ⟨rfl, rfl, Nat.zero_le _⟩
  | d :: ds, h => by
    have h1 := h d List.mem_cons_self
    obtain ⟨a, b, c⟩ := low_lst fun x hx => h x (List.mem_cons_of_mem _ hx)
    unfold D.low at h1
    rw [Bool.and_eq_true, Bool.and_eq_true, decide_eq_true_eq] at h1
    obtain ⟨⟨p1, p2⟩, p3⟩ := h1
    refine ⟨?_, ?_, ?_⟩
    · show (d.plain && D.plainA ds) = true
      rw [p1, a]; rfl
    · simp [D.pyA, PyData.canLayAll0, p2, b]
    · simp only [D.pyA, PyData.depthAll]
      omega
theorem ok_lows {ds : List D} (h : ∀ d ∈ ds, d.low = true) : (D.lst ds).ok = true := by
  obtain ⟨a, b, c⟩ := low_lst h
  unfold D.ok SeqAt.shaped
  rw [Bool.and_eq_true, Bool.and_eq_true, decide_eq_true_eq]
  refine ⟨a, ?_, ?_⟩
  · simp [D.py, PyData.canLay0, b]
  · simp only [D.py, PyData.depth]
    omega
theorem eqv_no (ds : List D) : PyData.eqv (D.lst ds).py (D.lst []).py = decide (ds = []) := by
  cases ds with
  | nil => rfl
  | cons d ds => rfl
def Pre_mixed (ds : List D) : Prop := ∃ xs, ds = [.lst xs] ∧ (∀ x ∈ xs, x.low = true) ∧ xs.length ≤ 100000
def R_mixed (ds : List D) (es : List D) : Prop := ∃ xs, ds = [.lst xs] ∧ es.Perm xs
abbrev sp__law_mixed (K : PySem.W.Frag) : Sp := spRF K Pre_mixed R_mixed
theorem perm_erase : ∀ {ds : List D} {k : Nat} {d : D}, ds[k]? = some d → ([d] ++ ds.eraseIdx k).Perm ds
  | [], k, d, h => by simp at h
  | x :: ds, 0, d, h => by
    have z := Option.some.inj h
    subst z
    exact List.Perm.refl _
  | x :: ds, k + 1, d, h => (List.Perm.swap x d _).trans (List.Perm.cons x (perm_erase (k := k) h))
theorem ok__law_mixed {f : Addr} {fd : FuncData} (F : Fun K "_law_mixed" "_law_mixed" s__law_mixed f fd) (T : Tx K mg) (d__law_off : Dk P w K mg base 1 "_law_off" P__law_off (sp__law_off K)) : FnOk P w K mg base CX0 2 f fd P__law_mixed (sp__law_mixed K) := by
  refine F.ok sc__law_mixed (fun vs H Q E h => ?_) (fun cdv A outer s H vs Q E hr h => ?_)
  · obtain ⟨p, ws, G, ds, rfl, e, gp, dc, ra, ⟨xs, rfl, hlow, hlen⟩, q⟩ := h
    exact congrArg (· + 1) ra.len
  · obtain ⟨p, ws, G, ds, rfl, e, gp, dc, ra, ⟨xs, rfl, hlow, hlen⟩, q⟩ := h
    obtain ⟨v1, rfl, r1⟩ := ra.one
    refine ⟨_, (pss_cons (ps_set (i := 2) sc__law_mixed.nd rfl (by first | exact Or.inl rfl | exact Or.inr rfl) (pe_callTy (call_listK K rfl) (by rfl) T.n_list (by decide +kernel) (pa_cons (pv 1) pa_nil)))
    (pss_cons (ps_set (i := 3) sc__law_mixed.nd rfl (by first | exact Or.inl rfl | exact Or.inr rfl) (pe_lst pa_nil))
    (pss_cons (ps_while PassesOwn.never (pt_cmpR (op_neK K rfl hr.units) (pv 2) (pe_lst pa_nil) (nomark _)) (pss_one (ps_expr (pe_bm PySem.F.plainAttrs_list PySem.F.slot_list_append PySem.F.type_list_append mt_append (pv 3) (pa_cons (pe_bm PySem.F.plainAttrs_list PySem.F.slot_list_pop PySem.F.type_list_pop mt_popAt (pv 2) (pa_cons (pe_fn d__law_off (hr.mono (by decide)) (by rfl) (pa_cons (pv 0) (pa_cons (pe_callB (call_lenK K rfl) (by rfl) T.n_len (by decide +kernel) (pa_cons (pv 2) pa_nil)) pa_nil))) pa_nil)) pa_nil)))))
    (pss_one (ps_ret (pv 3)))))), ?_⟩
    try dsimp only [cxOf, Cx.nox, Cx.wish]
    refine q_asgF e (ds := xs) (f_list (e_var rfl r1) rfl) fun l vs0 G1 H1 s1 hl gl xl rl => ?_
    have nl : l ≠ p := dc.ne hl
    have S1 := (Sd.refl e gp dc).then s1
    refine q_newL S1.ii fun r H2 hr2 gr s2 xr => ?_
    have S2 := S1.then s2
    have nr : r ≠ p := S1.d.ne hr2
    have hr0 : H r = none := S1.pre hr2 nr
    have nlr : l ≠ r := fun z => by rw [z, hr2] at xl; cases xl
    obtain ⟨gl2, xl2⟩ := s2.keep gl xl
    refine q_while S2.s (fun m σ' G' H' => ∃ xs' ds' ys es, m = ds'.length ∧ σ' = [some (.ref p), some v1, some (.ref l), some (.ref r)] ∧ G' p = none ∧ Dice p H' ∧ G' l = none ∧ H' l = some (.lst xs') ∧ RpA K G' xs' ds' ∧ G' r = none ∧ H' r = some (.lst ys) ∧ RpA K G' ys es ∧ (es ++ ds').Perm xs) xs.length
      ⟨_, _, _, _, rfl, rfl, S2.g, S2.d, gl2, xl2, rl.ex s2.g, gr, xr, .nil, List.Perm.refl _⟩ ?_
    rintro m σ' G' H' S' ew ⟨xs', ds', ys, es, rfl, rfl, gp', dc', gl', xl', rl', gr', xr', rr', pm⟩
    have hlow' : ∀ x ∈ ds', x.low = true := fun x hx => hlow x (pm.mem_iff.mp (List.mem_append_right _ hx))
    have hsz := pm.length_eq
    rw [List.length_append] at hsz
    refine (b_test (K := K) (e_neD (d1 := .lst ds') (d2 := .lst []) (e_var rfl (.lst upd_same (rl'.ex (Ex.new gl')))) (EvF.toD (f_lst a_nil (by decide))) (ok_lows hlow') rfl)) H' (ex_own S'.i xl') _ fun G3 H3 s3 => ?_
    obtain ⟨G4, s4, gl4, xl4, _⟩ := s3.thaw gl' xl'
    rw [eqv_no]
    have S4 : Sd p G H G' H' := ⟨S', gp', dc'⟩
    have S4 := S4.then s4
    obtain ⟨gr4, xr4⟩ := s4.keep gr' xr'
    by_cases hd : ds' = []
    · subst hd
      rw [if_neg (by simp)]
      refine ⟨_, rfl, q r ys es G4 H3 S4 hr0 gr4 xr4 ⟨xs, rfl, ?_⟩ (rr'.ex s4.g)⟩
      rw [List.append_nil] at pm
      exact pm
    · rw [if_pos (by simp [hd])]
      have hpos : 0 < ds'.length := List.length_pos_iff.mpr hd
      refine ⟨fun σ2 H5 => ∃ m', m' < ds'.length ∧ ∃ G5, Step G (hide p H) G5 H5 ∧ Ex G1 G5 ∧ _, fun _ _ h => h, ?_⟩
      refine ⟨_, rfl, .inl ⟨rfl, ys, .of xr4⟩, _, rfl, .inl ⟨rfl, xs', .of xl4⟩, ?_⟩
      refine EvR.own (K := K) (q := l) (o := .lst xs') (R := R_off [.int ds'.length]) (r_call1 rfl (a_one (e_len (d := .lst ds') (e_var rfl (.lst upd_same ((rl'.ex s4.g).ex (Ex.new gl4)))) rfl)) ⟨ds'.length, rfl, hpos, by omega⟩) (fun d ⟨m, _, r, hd, _⟩ => by subst hd; rfl) nl S4.ii gl4 xl4 S4.g S4.d _ fun v d G5 H5 S5 gl5 xl5 ⟨m, hm, k, hd, hk⟩ rv => ?_
      have hm : ds'.length = m := by injection hm with hm; injection hm with hm; omega
      subst hm
      subst hd
      have z := rv.int_of
      subst z
      have hkx : k < xs'.length := by rw [rl'.len]; exact hk
      obtain ⟨dk, hdk, rdk⟩ := rl'.get (List.getElem?_eq_getElem hkx)
      have S6 := S4.trans S5
      obtain ⟨gr5, xr5⟩ := S5.keep nr gr4 xr4
      refine ⟨l, xs', (k : Int), k, xs'[k], rfl, rfl, xl5, by omega, by omega, ?_, List.getElem?_eq_getElem hkx, ?_⟩
      · exact (ixN_seq (Evl.ixN_nat hkx)).1
      refine ⟨r, ys, xs'[k], rfl, rfl, by rw [upd_ne (Ne.symm nlr)]; exact xr5, ?_, ?_⟩
      · rw [rr'.len, sizeLine_eq]; omega
      refine ⟨ds'.length - 1, by omega, G5, ((S6.mut nl hl gl5).mut nr hr0 gr5).s, ?_, xs'.eraseIdx k, ds'.eraseIdx k, ys ++ [xs'[k]], es ++ [dk], ?_, rfl, S6.g, (S6.d.mut nl).mut nr, gl5, ?_, ((rl'.ex s4.g).ex S5.gg).erase k, gr5, upd_same, ((rr'.ex s4.g).ex S5.gg).snoc ((rdk.ex s4.g).ex S5.gg), ?_⟩
      · exact ew.trans (s4.g.trans S5.gg)
      · rw [List.length_eraseIdx, if_pos hk]
      · rw [upd_ne nlr]; exact upd_same
      · refine List.Perm.trans ?_ pm
        rw [List.append_assoc]
        refine List.Perm.append_left es ?_
        exact perm_erase hdk

end

section
variable [Tbs] {P : Program} {w : World} {K : PySem.W.Frag} {mg : Str → Option Value} {base : Heap}
abbrev s__law_contest : Stmt := top 44
abbrev N__law_contest : List Str := ["_law_d", "_law_rules", "_law_teams", "_law_end", "_law_tasks", "_law_task", "_law_groups", "_law_group", "_law_points", "_law_frozen"]
abbrev P__law_contest : List Str := ["_law_d", "_law_rules"]
theorem sc__law_contest : FnScope N__law_contest P__law_contest (defScope s__law_contest) := ⟨rfl, rfl, rfl, by decide +kernel, rfl, by decide +kernel, by decide +kernel⟩

def Pre_contest (ds : List D) : Prop := ∃ rs : List Str, ds = [.lst (rs.map D.str)] ∧ 0 < rs.length ∧ rs.length ≤ 1000 ∧ ∀ r ∈ rs, r = sFirst ∨ r = sBest ∨ r = sGroups
def R_contest (ds : List D) (d : D) : Prop := ∃ (rs : List Str) (c : Con), ds = [.lst (rs.map D.str)] ∧ d = c.d ∧ c.Ok ∧ c.rule ∈ rs
abbrev sp__law_contest (K : PySem.W.Frag) : Sp := spR K Pre_contest R_contest
def gOk (g : Nat × Nat) : Prop := (1 ≤ g.1 ∧ g.1 ≤ 5) ∧ 1 ≤ g.2 ∧ g.2 ≤ 100
def tOk (fin : Nat) (t : List (Nat × Nat) × Nat) : Prop := t.2 ≤ fin ∧ 1 ≤ t.1.length ∧ t.1.length ≤ 4 ∧ ∀ g ∈ t.1, gOk g
theorem ok__law_contest {f : Addr} {fd : FuncData} (F : Fun K "_law_contest" "_law_contest" s__law_contest f fd) (T : Tx K mg) (d__law_off : Dk P w K mg base 1 "_law_off" P__law_off (sp__law_off K)) : FnOk P w K mg base CX0 2 f fd P__law_contest (sp__law_contest K) := by
  refine F.ok sc__law_contest (fun vs H Q E h => ?_) (fun cdv A outer s H vs Q E hr h => ?_)
  · obtain ⟨p, ws, G, ds, rfl, e, gp, dc, ra, ⟨rs, rfl, hr0, hr1, hrs⟩, q⟩ := h
    exact congrArg (· + 1) ra.len
  · obtain ⟨p, ws, G, ds, rfl, e, gp, dc, ra, ⟨rs, rfl, hr0, hr1, hrs⟩, q⟩ := h
    obtain ⟨v1, rfl, r1⟩ := ra.one
    refine ⟨_, (pss_cons (ps_set (i := 2) sc__law_contest.nd rfl (by first | exact Or.inl rfl | exact Or.inr rfl) (pe_op (op_addK K rfl) pe_int (pe_fn d__law_off (hr.mono (by decide)) (by rfl) (pa_cons (pv 0) (pa_cons (pe_ix (ix_seqK K rfl) (pe_lst (pa_cons pe_int (pa_cons pe_int pa_nil))) (pe_fn d__law_off (hr.mono (by decide)) (by rfl) (pa_cons (pv 0) (pa_cons pe_int pa_nil))) (fun _ _ => rfl)) pa_nil)))))
    (pss_cons (ps_set (i := 3) sc__law_contest.nd rfl (by first | exact Or.inl rfl | exact Or.inr rfl) (pe_ix (ix_seqK K rfl) (pe_lst (pa_cons (pe_op (op_addK K rfl) pe_int (pe_fn d__law_off (hr.mono (by decide)) (by rfl) (pa_cons (pv 0) (pa_cons pe_int pa_nil)))) (pa_cons (pe_op (op_addK K rfl) pe_int (pe_fn d__law_off (hr.mono (by decide)) (by rfl) (pa_cons (pv 0) (pa_cons pe_int pa_nil)))) (pa_cons pe_int pa_nil)))) (pe_fn d__law_off (hr.mono (by decide)) (by rfl) (pa_cons (pv 0) (pa_cons pe_int pa_nil))) (fun _ _ => rfl)))
    (pss_cons (ps_set (i := 4) sc__law_contest.nd rfl (by first | exact Or.inl rfl | exact Or.inr rfl) (pe_lst pa_nil))
    (pss_cons (ps_for PassesOwn.never rfl (pi_range1 (by rfl) T.n_range (pa_cons (pe_op (op_addK K rfl) pe_int (pe_fn d__law_off (hr.mono (by decide)) (by rfl) (pa_cons (pv 0) (pa_cons (pe_ix (ix_seqK K rfl) (pe_lst (pa_cons pe_int (pa_cons pe_int pa_nil))) (pe_fn d__law_off (hr.mono (by decide)) (by rfl) (pa_cons (pv 0) (pa_cons pe_int pa_nil))) (fun _ _ => rfl)) pa_nil)))) pa_nil)) (pg_name (i := 5) sc__law_contest.nd rfl (by first | exact Or.inl rfl | exact Or.inr rfl)) (pss_cons (ps_set (i := 6) sc__law_contest.nd rfl (by first | exact Or.inl rfl | exact Or.inr rfl) (pe_lst pa_nil))
    (pss_cons (ps_for PassesOwn.never rfl (pi_range1 (by rfl) T.n_range (pa_cons (pe_op (op_addK K rfl) pe_int (pe_fn d__law_off (hr.mono (by decide)) (by rfl) (pa_cons (pv 0) (pa_cons pe_int pa_nil)))) pa_nil)) (pg_name (i := 7) sc__law_contest.nd rfl (by first | exact Or.inl rfl | exact Or.inr rfl)) (pss_cons (ps_set (i := 8) sc__law_contest.nd rfl (by first | exact Or.inl rfl | exact Or.inr rfl) (pe_op (op_addK K rfl) pe_int (pe_fn d__law_off (hr.mono (by decide)) (by rfl) (pa_cons (pv 0) (pa_cons (pe_ix (ix_seqK K rfl) (pe_lst (pa_cons pe_int (pa_cons pe_int pa_nil))) (pe_fn d__law_off (hr.mono (by decide)) (by rfl) (pa_cons (pv 0) (pa_cons pe_int pa_nil))) (fun _ _ => rfl)) pa_nil)))))
    (pss_one (ps_expr (pe_bm PySem.F.plainAttrs_list PySem.F.slot_list_append PySem.F.type_list_append mt_append (pv 6) (pa_cons (pe_tup (pa_cons (pe_op (op_addK K rfl) pe_int (pe_fn d__law_off (hr.mono (by decide)) (by rfl) (pa_cons (pv 0) (pa_cons (pe_ix (ix_seqK K rfl) (pe_lst (pa_cons pe_int (pa_cons pe_int pa_nil))) (pe_fn d__law_off (hr.mono (by decide)) (by rfl) (pa_cons (pv 0) (pa_cons pe_int pa_nil))) (fun _ _ => rfl)) pa_nil)))) (pa_cons (pv 8) pa_nil))) pa_nil))))))
    (pss_one (ps_expr (pe_bm PySem.F.plainAttrs_list PySem.F.slot_list_append PySem.F.type_list_append mt_append (pv 4) (pa_cons (pe_tup (pa_cons (pe_callTy (call_tupleK K rfl) (by rfl) T.n_tuple (by decide +kernel) (pa_cons (pv 6) pa_nil)) (pa_cons (pe_ix (ix_seqK K rfl) (pe_lst (pa_cons (pv 3) (pa_cons (pe_fn d__law_off (hr.mono (by decide)) (by rfl) (pa_cons (pv 0) (pa_cons (pe_op (op_addK K rfl) (pv 3) pe_int) pa_nil))) pa_nil))) (pe_fn d__law_off (hr.mono (by decide)) (by rfl) (pa_cons (pv 0) (pa_cons pe_int pa_nil))) (fun _ _ => rfl)) pa_nil))) pa_nil)))))))
    (pss_cons (ps_set (i := 9) sc__law_contest.nd rfl (by first | exact Or.inl rfl | exact Or.inr rfl) (pe_ix (ix_seqK K rfl) (pe_lst (pa_cons (pv 3) (pa_cons pe_int (pa_cons (pe_fn d__law_off (hr.mono (by decide)) (by rfl) (pa_cons (pv 0) (pa_cons (pe_op (op_addK K rfl) (pv 3) pe_int) pa_nil))) (pa_cons (pe_fn d__law_off (hr.mono (by decide)) (by rfl) (pa_cons (pv 0) (pa_cons (pe_op (op_addK K rfl) (pv 3) pe_int) pa_nil))) pa_nil))))) (pe_fn d__law_off (hr.mono (by decide)) (by rfl) (pa_cons (pv 0) (pa_cons pe_int pa_nil))) (fun _ _ => rfl)))
    (pss_one (ps_ret (pe_tup (pa_cons (pe_ix (ix_seqK K rfl) (pv 1) (pe_fn d__law_off (hr.mono (by decide)) (by rfl) (pa_cons (pv 0) (pa_cons (pe_callB (call_lenK K rfl) (by rfl) T.n_len (by decide +kernel) (pa_cons (pv 1) pa_nil)) pa_nil))) (fun _ _ => rfl)) (pa_cons (pv 2) (pa_cons (pv 3) (pa_cons (pv 9) (pa_cons (pe_callTy (call_tupleK K rfl) (by rfl) T.n_tuple (by decide +kernel) (pa_cons (pv 4) pa_nil)) pa_nil))))))))))))), ?_⟩
    try dsimp only [cxOf, Cx.nox, Cx.wish]
    have S0 := Sd.refl e gp dc
    refine qr_asg' (K := K) (R := Btw 2 12) S0 (by walk_at "drw") fun v2 d2 G1 H1 _ S1 ⟨teams, hd2, ht1, ht2⟩ r2 => ?_
    subst hd2
    refine qr_asg' (K := K) (R := Btw 1 300) S1 (by walk_at "drw") fun v3 d3 G2 H2 _ S2 ⟨fin, hd3, hf1, hf2⟩ r3 => ?_
    subst hd3
    have z3 := r3.int_of
    have z2 := r2.int_of
    subst z3 z2
    refine q_newLR S2 fun tl H3 tl1 tl2 tl3 tl4 S3 s3 tx => ?_
    refine q_rngR (K := K) (lo := 1) (hi := 6) (by decide) S3.ii S3.g S3.d (by walk_at "drw") fun n G4 H4 hn1 hn2 S34 => ?_
    have S4 := S3.trans S34
    obtain ⟨tg4, tx4⟩ := S34.keep tl3 tl4 tx
    refine q_for (K := K) (n := n) (js := [5]) (E := fun i => [.int i]) S4.s (i_rng1' (e_c (.int _)) (by omega)) (fun i hi => g_name)
      (fun i σ' G' H' => G' p = none ∧ Dice p H' ∧ G' tl = none ∧ (∃ xs tks, H' tl = some (.lst xs) ∧ RpA K G' xs (tks.map tkD) ∧ tks.length = i ∧ ∀ t ∈ tks, tOk fin t) ∧ ∃ w5 w6 w7 w8 w9, σ' = [some (.ref p), some v1, some (.int teams), some (.int fin), some (.ref tl), w5, w6, w7, w8, w9])
      (fun G5 H5 s5 => ⟨(S4.then s5).g, (S4.then s5).d, (s5.keep tg4 tx4).1, ⟨_, [], (s5.keep tg4 tx4).2, .nil, rfl, fun _ h => nomatch h⟩, _, _, _, _, _, rfl⟩) ?_ ?_
    · rintro Gw ew i hi σ' G' H' S' ew' ⟨gp', dc', tg', ⟨xs, tks, tx', rx, hl, hok⟩, w5, w6, w7, w8, w9, rfl⟩ G5 H5 us s5 ru
      obtain ⟨a, rfl, ra⟩ := ru.one
      have S5 : Sd p G H G5 H5 := (Sd.mk S' gp' dc').then s5
      obtain ⟨tg5, tx5⟩ := s5.keep tg' tx'
      refine q_newLR S5 fun gl H6 gl1 gl2 gl3 gl4 S6 s6 gx => ?_
      have ntg : tl ≠ gl := fun z => by rw [z, gl1] at tx5; cases tx5
      obtain ⟨tg6, tx6⟩ := s6.keep tg5 tx5
      refine q_rngR (K := K) (lo := 1) (hi := 4) (by decide) S6.ii S6.g S6.d (by walk_at "drw") fun m G7 H7 hm1 hm2 S67 => ?_
      have S7 := S6.trans S67
      obtain ⟨tg7, tx7⟩ := S67.keep tl3 tg6 tx6
      obtain ⟨gg7, gx7⟩ := S67.keep gl3 gl4 gx
      refine q_for (K := K) (n := m) (js := [7]) (E := fun i => [.int i]) S7.s (i_rng1' (e_c (.int _)) (by omega)) (fun i hi => g_name)
        (fun i σ' G' H' => G' p = none ∧ Dice p H' ∧ (G' tl = none ∧ H' tl = some (.lst xs)) ∧ G' gl = none ∧ (∃ ys gs, H' gl = some (.lst ys) ∧ RpA K G' ys (gs.map gD) ∧ gs.length = i ∧ ∀ g ∈ gs, gOk g) ∧ ∃ w7 w8, σ' = [some (.ref p), some v1, some (.int teams), some (.int fin), some (.ref tl), some a, some (.ref gl), w7, w8, w9])
        (fun G8 H8 s8 => ⟨(S7.then s8).g, (S7.then s8).d, s8.keep tg7 tx7, (s8.keep gg7 gx7).1, ⟨_, [], (s8.keep gg7 gx7).2, .nil, rfl, fun _ h => nomatch h⟩, _, _, rfl⟩) ?_ ?_
      · rintro Gv ev j hj σ'' G' H' S'' ev' ⟨gp'', dc'', ⟨tg8, tx8⟩, gg8, ⟨ys, gs, gx8, ry, hgl, hgok⟩, w7, w8, rfl⟩ G8 H8 us s8 ru
        obtain ⟨b, rfl, rb⟩ := ru.one
        have S8 : Sd p G H G8 H8 := (Sd.mk S'' gp'' dc'').then s8
        obtain ⟨tg9, tx9⟩ := s8.keep tg8 tx8
        obtain ⟨gg9, gx9⟩ := s8.keep gg8 gx8
        refine qr_asg' (K := K) (R := Btw 1 100) S8 (by walk_at "drw") fun v9 d9 G9 H9 S89 S9 ⟨pts, hd9, hp1, hp2⟩ r9 => ?_
        subst hd9
        have z9 := r9.int_of
        subst z9
        obtain ⟨tg10, tx10⟩ := S89.keep tl3 tg9 tx9
        obtain ⟨gg10, gx10⟩ := S89.keep gl3 gg9 gx9
        have hyl : ys.length = gs.length := by rw [ry.len, List.length_map]
        refine s_appR (K := K) (R := fun d => ∃ g, d = gD g ∧ gOk g) S9.ii S9.g S9.d gl3 gg10 gx10 rfl (r_tup (rs_cons (RA := Btw 1 5) (by walk_at "drw") (rs_one (RA := Btw pts pts) (by walk_at "dr") (Rs := fun ds => ds = [.int pts]) fun d ⟨r, e1, e2, e3⟩ => ?_) fun d ds ⟨r, e1, e2, e3⟩ e4 => ?_)) (by omega) fun v10 d10 G10 H10 S910 gg11 ⟨g, hd10, hgk⟩ r10 => ?_
        · have : r = pts := by omega
          subst this
          rw [e1]
        · subst e1 e4
          exact ⟨(by show 2 ≤ 1000; decide), (r, pts), rfl, ⟨e2, e3⟩, hp1, hp2⟩
        · subst hd10
          obtain ⟨tg11, tx11⟩ := S910.keep tl3 tg10 tx10
          have S10 := S9.trans S910
          have S11 := S10.mut (o := .lst (ys ++ [v10])) gl3 gl2 gg11
          refine ⟨G10, S11.s, ev'.trans (s8.g.trans (S89.gg.trans S910.gg)), S11.g, S11.d, ⟨tg11, by rw [upd_ne ntg]; exact tx11⟩, gg11, ⟨ys ++ [v10], gs ++ [g], upd_same, ?_, by rw [List.length_append, hgl]; rfl, fun g' hg' => ?_⟩, _, _, rfl⟩
          · rw [List.map_append]
            exact (ry.ex (s8.g.trans (S89.gg.trans S910.gg))).snoc r10
          · rcases List.mem_append.mp hg' with h | h
            · exact hgok g' h
            · rw [List.mem_singleton.mp h]; exact hgk
      · rintro σ'' G' H' S'' ev' ⟨gp'', dc'', ⟨tg8, tx8⟩, gg8, ⟨ys, gs, gx8, ry, hgl, hgok⟩, w7, w8, rfl⟩
        have S8 : Sd p G H G' H' := ⟨S'', gp'', dc''⟩
        have S9 := S8.freeze gl3 gl2 gg8 gx8
        have tg9 : upd G' gl (.lst ys) tl = none := by rw [upd_ne ntg]; exact tg8
        have hxl : xs.length = tks.length := by rw [rx.len, List.length_map]
        refine s_appR (K := K) (R := fun d => ∃ t, d = tkD t ∧ tOk fin t) S9.ii S9.g S9.d tl3 tg9 tx8 rfl (r_tup (rs_cons (RA := fun d => d = .tup (gs.map gD)) (r_of (e_tuple (e_var rfl (.lst upd_same (ry.ex (Ex.new gg8))))) rfl) (rs_one (RA := Btw 0 fin) (by walk_at "drw") (Rs := fun ds => ∃ r : Nat, ds = [.int r] ∧ r ≤ fin) fun d ⟨r, e1, e2, e3⟩ => ?_) fun d ds e1 ⟨r, e2, e3⟩ => ?_)) (by omega) fun v10 d10 G10 H10 S910 gg11 ⟨t, hd10, hgk⟩ r10 => ?_
        · exact ⟨r, by rw [e1], e3⟩
        · subst e1 e2
          exact ⟨(by show 2 ≤ 1000; decide), (gs, r), rfl, e3, (by show 1 ≤ gs.length; omega), (by show gs.length ≤ 4; omega), hgok⟩
        · subst hd10
          have S10 := S9.trans S910
          have S11 := S10.mut (o := .lst (xs ++ [v10])) tl3 tl2 gg11
          have eE : Ex G5 G10 := (Ex.trans (Ex.trans S67.gg ev') (Ex.new gg8)).trans S910.gg
          refine ⟨G10, S11.s, ew'.trans (s5.g.trans eE), S11.g, S11.d, gg11, ⟨xs ++ [v10], tks ++ [t], upd_same, ?_, by rw [List.length_append, hl]; rfl, fun g' hg' => ?_⟩, _, _, _, _, _, rfl⟩
          · rw [List.map_append]
            exact (rx.ex (s5.g.trans eE)).snoc r10
          · rcases List.mem_append.mp hg' with h | h
            · exact hok g' h
            · rw [List.mem_singleton.mp h]; exact hgk
    · rintro σ' G' H' S' ew' ⟨gp', dc', tg', ⟨xs, tks, tx', rx, hl, hok⟩, w5, w6, w7, w8, w9, rfl⟩
      have S5 : Sd p G H G' H' := ⟨S', gp', dc'⟩
      have S6 := S5.freeze tl3 tl2 tg' tx'
      refine qr_asg' (K := K) (R := Btw 0 fin) S6 (by walk_at "drw") fun v9 d9 G7 H7 S67 S7 ⟨fz, hd9, _, hf3⟩ r9 => ?_
      subst hd9
      have e7 : Ex G G7 := S7.gg
      have r1' := r1.ex e7
      have rt : Rp K G7 (.ref tl) (.lst (tks.map tkD)) := (Rp.lst upd_same (rx.ex (Ex.new tg'))).ex S67.gg
      have hlr : (rs.map D.str).length = rs.length := List.length_map _
      refine sr_ret' (K := K) (R := R_contest [.lst (rs.map D.str)]) S7 (r_tup (rs_cons (RA := fun d => ∃ r, r ∈ rs ∧ d = .str r) (r_ixL (e_var rfl r1') (r_offN rfl (e_len (e_var rfl r1') rfl) (by omega) (by omega)) fun d hd => ?_)
        (rs_of (Rs := fun ds => ds = [.int teams, .int fin, .int fz, .tup (tks.map tkD)]) (a_cons (by walk_at "ev") (a_cons (by walk_at "ev") (a_cons (e_var rfl r9) (a_one (e_tuple (e_var rfl rt)))))) rfl) fun d ds ⟨r, e1, e2⟩ e3 => ?_)) fun v d G8 H8 S8 hR rv => q v d G8 H8 S8.s S8.g S8.d hR rv
      · obtain ⟨r, h1, h2⟩ := List.mem_map.mp hd
        exact ⟨r, h1, h2.symm⟩
      · subst e2 e3
        exact ⟨by show 5 ≤ 1000; decide, rs, ⟨r, teams, fin, fz, tks⟩, rfl, rfl, ⟨hrs r e1, ⟨ht1, ht2⟩, ⟨hf1, hf2⟩, hf3, ⟨by show 1 ≤ tks.length; omega, by show tks.length ≤ 6; omega⟩, hok⟩, e1⟩

end

section
variable [Tbs] {P : Program} {w : World} {K : PySem.W.Frag} {mg : Str → Option Value} {base : Heap}
abbrev s__law_tries : Stmt := top 45
abbrev N__law_tries : List Str := ["_law_d", "_law_contest_here", "_law_most", "_law_found", "_law_few", "_law_time", "_law_step", "_law_k"]
abbrev P__law_tries : List Str := ["_law_d", "_law_contest_here", "_law_most"]
theorem sc__law_tries : FnScope N__law_tries P__law_tries (defScope s__law_tries) := ⟨rfl, rfl, rfl, by decide +kernel, rfl, by decide +kernel, by decide +kernel⟩

def Pre_tries (ds : List D) : Prop := ∃ (c : Con) (m : Nat), ds = [c.d, .int m] ∧ c.Ok ∧ m ≤ 200
def R_tries (ds : List D) (es : List D) : Prop := ∃ (c : Con) (m : Nat) (ts : List Try), ds = [c.d, .int m] ∧ es = ts.map trD ∧ TriesOk c ts ∧ ts.length ≤ m
abbrev sp__law_tries (K : PySem.W.Frag) : Sp := spRF K Pre_tries R_tries
theorem ok__law_tries {f : Addr} {fd : FuncData} (F : Fun K "_law_tries" "_law_tries" s__law_tries f fd) (T : Tx K mg) (d__law_off : Dk P w K mg base 1 "_law_off" P__law_off (sp__law_off K)) : FnOk P w K mg base CX0 2 f fd P__law_tries (sp__law_tries K) := by
  refine F.ok sc__law_tries (fun vs H Q E h => ?_) (fun cdv A outer s H vs Q E hr h => ?_)
  · obtain ⟨p, ws, G, ds, rfl, e, gp, dc, ra, ⟨c, m, rfl, oc, hm⟩, q⟩ := h
    exact congrArg (· + 1) ra.len
  · obtain ⟨p, ws, G, ds, rfl, e, gp, dc, ra, ⟨c, m, rfl, oc, hm⟩, q⟩ := h
    obtain ⟨v1, v2, rfl, r1, r2⟩ := ra.two
    refine ⟨_, (pss_cons (ps_set (i := 3) sc__law_tries.nd rfl (by first | exact Or.inl rfl | exact Or.inr rfl) (pe_lst pa_nil))
    (pss_cons (ps_set (i := 4) sc__law_tries.nd rfl (by first | exact Or.inl rfl | exact Or.inr rfl) (pe_ix (ix_seqK K rfl) (pe_lst (pa_cons pe_int (pa_cons pe_int (pa_cons pe_int pa_nil)))) (pe_fn d__law_off (hr.mono (by decide)) (by rfl) (pa_cons (pv 0) (pa_cons pe_int pa_nil))) (fun _ _ => rfl)))
    (pss_cons (ps_set (i := 5) sc__law_tries.nd rfl (by first | exact Or.inl rfl | exact Or.inr rfl) pe_int)
    (pss_cons (ps_set (i := 6) sc__law_tries.nd rfl (by first | exact Or.inl rfl | exact Or.inr rfl) (pe_ix (ix_seqK K rfl) (pe_lst (pa_cons pe_int (pa_cons pe_int (pa_cons pe_int pa_nil)))) (pe_fn d__law_off (hr.mono (by decide)) (by rfl) (pa_cons (pv 0) (pa_cons pe_int pa_nil))) (fun _ _ => rfl)))
    (pss_cons (ps_for PassesOwn.never rfl (pi_range1 (by rfl) T.n_range (pa_cons (pe_fn d__law_off (hr.mono (by decide)) (by rfl) (pa_cons (pv 0) (pa_cons (pe_op (op_addK K rfl) (pv 2) pe_int) pa_nil))) pa_nil)) (pg_name (i := 7) sc__law_tries.nd rfl (by first | exact Or.inl rfl | exact Or.inr rfl)) (pss_cons (ps_set (i := 5) sc__law_tries.nd rfl (by first | exact Or.inl rfl | exact Or.inr rfl) (pe_callB (call_min2 rfl) (by rfl) T.n_min (by decide +kernel) (pa_cons pe_int (pa_cons (pe_op (op_addK K rfl) (pv 5) (pe_fn d__law_off (hr.mono (by decide)) (by rfl) (pa_cons (pv 0) (pa_cons (pe_op (op_addK K rfl) (pv 6) pe_int) pa_nil)))) pa_nil))))
    (pss_one (ps_expr (pe_bm PySem.F.plainAttrs_list PySem.F.slot_list_append PySem.F.type_list_append mt_append (pv 3) (pa_cons (pe_tup (pa_cons (pe_fn d__law_off (hr.mono (by decide)) (by rfl) (pa_cons (pv 0) (pa_cons (pe_callB (call_min2 rfl) (by rfl) T.n_min (by decide +kernel) (pa_cons (pv 4) (pa_cons (pe_ix (ix_seqK K rfl) (pv 1) pe_int (fun _ _ => rfl)) pa_nil))) pa_nil))) (pa_cons (pe_fn d__law_off (hr.mono (by decide)) (by rfl) (pa_cons (pv 0) (pa_cons (pe_callB (call_lenK K rfl) (by rfl) T.n_len (by decide +kernel) (pa_cons (pe_ix (ix_seqK K rfl) (pv 1) pe_int (fun _ _ => rfl)) pa_nil)) pa_nil))) (pa_cons (pv 5) pa_nil)))) pa_nil))))))
    (pss_one (ps_ret (pv 3)))))))), ?_⟩
    try dsimp only [cxOf, Cx.nox, Cx.wish]
    have z2 := r2.int_of
    subst z2
    have S0 := Sd.refl e gp dc
    refine q_newLR S0 fun tl H1 tl1 tl2 tl3 tl4 S1 s1 tx => ?_
    refine qr_asg' (K := K) (R := Btw 1 12) S1 (by walk_at "drw") fun v4 d4 G2 H2 s2 S2 ⟨few, hd4, hf1, hf2⟩ r4 => ?_
    subst hd4
    have z4 := r4.int_of
    subst z4
    refine q_asgC ?_
    refine qr_asg' (K := K) (R := Btw 1 40) S2 (by walk_at "drw") fun v6 d6 G3 H3 s3 S3 ⟨st, hd6, hs1, hs2⟩ r6 => ?_
    subst hd6
    have z6 := r6.int_of
    subst z6
    obtain ⟨tg3, tx3⟩ := (s2.trans s3).keep tl3 tl4 tx
    refine q_rngR (K := K) (lo := 0) (hi := m) (by omega) S3.ii S3.g S3.d (by walk_at "drw") fun n G4 H4 hn1 hn2 S34 => ?_
    have S4 := S3.trans S34
    obtain ⟨tg4, tx4⟩ := S34.keep tl3 tg3 tx3
    have r1 := r1.ex S4.gg
    refine q_for (K := K) (n := n) (js := [7]) (E := fun i => [.int i]) S4.s (i_rng1' (e_c (.int _)) (by omega)) (fun i hi => g_name)
      (fun i σ' G' H' => G' p = none ∧ Dice p H' ∧ G' tl = none ∧ (∃ (xs : List V) (ts : List Try) (T : Nat), H' tl = some (.lst xs) ∧ RpA K G' xs (ts.map trD) ∧ ts.length = i ∧ TriesOk c ts ∧ T ≤ 999 ∧ (∀ t ∈ ts, t.2.2 ≤ T) ∧ ∃ w7, σ' = [some (.ref p), some v1, some (.int m), some (.ref tl), some (.int few), some (.int T), some (.int st), w7]))
      (fun G5 H5 s5 => ⟨(S4.then s5).g, (S4.then s5).d, (s5.keep tg4 tx4).1, ⟨_, [], 0, (s5.keep tg4 tx4).2, .nil, rfl, ⟨by decide, fun _ h => (nomatch h), .nil⟩, by decide, fun _ h => (nomatch h), _, rfl⟩⟩) ?_ ?_
    · rintro Gw ew i hi σ' G' H' S' ew' ⟨gp', dc', tg', ⟨xs, ts, T, tx', rx, hl, ot, hT, hTs, w7, rfl⟩⟩ G5 H5 us s5 ru
      obtain ⟨a, rfl, ra⟩ := ru.one
      have S5 : Sd p G H G5 H5 := (Sd.mk S' gp' dc').then s5
      obtain ⟨tg5, tx5⟩ := s5.keep tg' tx'
      refine qr_asg' (K := K) (R := Btw T 999) S5 (by walk_at "drw") fun v5 d5 G6 H6 s6 S6 ⟨T2, hd5, hT1, hT2⟩ r5 => ?_
      subst hd5
      have z5 := r5.int_of
      subst z5
      obtain ⟨tg6, tx6⟩ := s6.keep tl3 tg5 tx5
      have q1 := r1.ex (ew.trans (ew'.trans (s5.g.trans s6.gg)))
      have ht := oc.teams
      have htk := oc.many
      have hxl : xs.length = ts.length := by rw [rx.len, List.length_map]
      have htl : (c.tasks.map tkD).length = c.tasks.length := List.length_map _
      refine s_appR (K := K) (R := fun d => ∃ t, d = trD t ∧ TrOk c t ∧ t.2.2 = T2) S6.ii S6.g S6.d tl3 tg6 tx6 rfl (r_tup (rs_cons (RA := Btw 0 (c.teams - 1)) (r_w (r_off rfl (r_min2 (r_n (by walk_at "ev")) (r_n (n := c.teams) (e_ix (d1 := c.d) (by walk_at "ev") e_int rfl))) (by omega) (by omega)) (by omega) (by omega))
        (rs_cons (RA := Btw 0 (c.tasks.length - 1)) (r_w (r_off rfl (r_n (n := c.tasks.length) (e_len (d := .tup (c.tasks.map tkD)) (e_ix (d1 := c.d) (by walk_at "ev") e_int rfl) (congrArg some htl))) (by omega) (by omega)) (by omega) (by omega))
        (rs_one (RA := Btw T2 T2) (by walk_at "dr") (Rs := fun ds => ds = [.int T2]) fun d ⟨r, e1, e2, e3⟩ => ?_) (Rs := fun ds => ∃ k : Nat, ds = [.int k, .int T2] ∧ k < c.tasks.length) fun d ds ⟨r, e1, e2, e3⟩ e4 => ?_) fun d ds ⟨r, e1, e2, e3⟩ ⟨k, e4, e5⟩ => ?_)) (by omega) fun v10 d10 G10 H10 S910 gg11 ⟨t, hd10, hgk, htt⟩ r10 => ?_
      · have : r = T2 := by omega
        subst this
        rw [e1]
      · subst e1 e4
        exact ⟨r, rfl, by omega⟩
      · subst e1 e4
        exact ⟨(by show 3 ≤ 1000; decide), (r, k, T2), rfl, ⟨by show r < c.teams; omega, e5, hT2⟩, rfl⟩
      · subst hd10
        have S10 := S6.trans S910
        have S11 := S10.mut (o := .lst (xs ++ [v10])) tl3 tl2 gg11
        have eE : Ex G' G10 := s5.g.trans (s6.gg.trans S910.gg)
        refine ⟨G10, S11.s, ew'.trans eE, S11.g, S11.d, gg11, ⟨xs ++ [v10], ts ++ [t], T2, upd_same, ?_, by rw [List.length_append, hl]; rfl, ⟨by rw [List.length_append]; show _ + 1 ≤ 200; omega, fun t' ht' => ?_, ?_⟩, hT2, fun t' ht' => ?_, _, rfl⟩⟩
        · rw [List.map_append]
          exact (rx.ex eE).snoc r10
        · rcases List.mem_append.mp ht' with h | h
          · exact ot.ok t' h
          · rw [List.mem_singleton.mp h]; exact hgk
        · refine List.pairwise_append.mpr ⟨ot.rise, List.pairwise_singleton _ _, fun a ha b hb => ?_⟩
          rw [List.mem_singleton.mp hb, htt]
          exact Nat.le_trans (hTs a ha) hT1
        · rcases List.mem_append.mp ht' with h | h
          · exact Nat.le_trans (hTs t' h) hT1
          · rw [List.mem_singleton.mp h, htt]; exact Nat.le_refl _
    · rintro σ' G' H' S' ew' ⟨gp', dc', tg', ⟨xs, ts, T, tx', rx, hl, ot, hT, hTs, w7, rfl⟩⟩
      exact ⟨_, rfl, q tl xs _ G' H' ⟨S', gp', dc'⟩ tl2 tg' tx' ⟨c, m, ts, rfl, rfl, ot, by omega⟩ rx⟩

end

section
variable [Tbs] {P : Program} {w : World} {K : PySem.W.Frag} {mg : Str → Option Value} {base : Heap}
abbrev s__law_size : Stmt := top 46
abbrev N__law_size : List Str := ["_law_contest_here", "_law_task", "_law_many", "_law_points"]
abbrev P__law_size : List Str := ["_law_contest_here", "_law_task"]
theorem sc__law_size : FnScope N__law_size P__law_size (defScope s__law_size) := ⟨rfl, rfl, rfl, by decide +kernel, rfl, by decide +kernel, by decide +kernel⟩

def R_law_size (ds : List D) (r : D) : Prop := ∃ (c : Con) (k : Nat), ds = [c.d, .int k] ∧ c.Ok ∧ k < c.tasks.length ∧ r = .int (c.size k)
abbrev sp__law_size (K : PySem.W.Frag) : Sp := spP K R_law_size
theorem ok__law_size {f : Addr} {fd : FuncData} (F : Fun K "_law_size" "_law_size" s__law_size f fd) (T : Tx K mg) : FnOk P w K mg base CX0 1 f fd P__law_size (sp__law_size K) := by
  refine F.ok sc__law_size (fun vs H Q E h => ?_) (fun cdv A outer s H vs Q E hr h => ?_)
  · obtain ⟨G, ds, r, e, ra, ⟨c, k, rfl, oc, hk, rfl⟩, q⟩ := h
    exact ra.len
  · obtain ⟨G, ds, r, e, ra, ⟨c, k, rfl, oc, hk, rfl⟩, q⟩ := h
    obtain ⟨v0, v1, rfl, r0, r1⟩ := ra.two
    have hc := Con.task_at hk
    have ok := Con.task_ok oc hk
    refine ⟨_, (pss_one (ps_ret (pe_callB (cr_sumK K rfl rfl) (by rfl) T.n_sum (by decide +kernel) (pa_cons (pe_lc (own := [("_law_many", 2), ("_law_points", 3)]) (g := gTup K 2 (gCons (gName 2) (gCons (gName 3) gNil))) (tt := tYes) rfl sc__law_size.nd (pi_seqK K rfl (pe_ix (ix_seqK K rfl) (pe_ix (ix_seqK K rfl) (pe_ix (ix_seqK K rfl) (pv 0) pe_int (fun _ _ => rfl)) (pv 1) (fun _ _ => rfl)) pe_int (fun _ _ => rfl))) (blkOk_by (own := [("_law_many", 2), ("_law_points", 3)]) (N := N__law_size) (sc := defScope s__law_size) (by decide +kernel)) (fun _ _ _ _ _ => (pg_tup rfl (pgs_cons (pg_name (i := 2) sc__law_size.nd rfl (by first | exact Or.inl rfl | exact Or.inr rfl)) (pgs_cons (pg_name (i := 3) sc__law_size.nd rfl (by first | exact Or.inl rfl | exact Or.inr rfl)) pgs_nil)))) (fun _ _ _ _ _ => pts_nil) (fun _ _ _ _ _ => (pv 2))) pa_nil)))), ?_⟩
    try dsimp only [cxOf, Cx.nox, Cx.wish]
    refine s_ret (d := .int (c.size k)) e ?_ q
    refine EvD.eq (e_sum (ns := (c.groups k).map fun g => (g.1 : Int)) (EvF.toD (f_lcm (xs := c.groups k) (Y := nth ((c.groups k).map gD)) (js := [2, 3]) (fun _ g => [.int g.1, .int g.2]) (fun _ => true) (fun g => .int g.1)
      (i_seqT' (List.length_map _) (e_ix (d1 := tkD (c.task k)) (e_ix (d1 := .tup (c.tasks.map tkD)) (i := k) (by walk_at "ev") (by walk_at "ev") (at_mapT hc)) e_int rfl)) (fun i x hx => by rw [nth_map hx]; exact g_two) (by omega) (fun _ _ _ => rfl) (fun us h => match us, h with | [_, _], _ => rfl)
      (fun _ _ _ _ _ _ _ => b_yes) (fun i x hx _ G1 e1 us ru => ?_))) ?_) ?_
    · obtain ⟨a, b, rfl, ra, rb⟩ := ru.two
      exact e_var rfl ra
    · rw [List.filter_eq_self.mpr (fun _ _ => rfl), List.map_map]
      rfl
    · have h := sum_nat ((c.groups k).map (·.1))
      rw [List.map_map] at h
      exact congrArg D.int h

end

section
variable [Tbs] {P : Program} {w : World} {K : PySem.W.Frag} {mg : Str → Option Value} {base : Heap}
abbrev s__law_truth : Stmt := top 47
abbrev N__law_truth : List Str := ["_law_d", "_law_contest_here", "_law_tries_here", "_law_found", "_law_number", "_law_often", "_law_trial"]
abbrev P__law_truth : List Str := ["_law_d", "_law_contest_here", "_law_tries_here"]
theorem sc__law_truth : FnScope N__law_truth P__law_truth (defScope s__law_truth) := ⟨rfl, rfl, rfl, by decide +kernel, rfl, by decide +kernel, by decide +kernel⟩

/-- all trials of all tries, rising -/
def trialsUpTo (c : Con) (ts : List Try) (i : Nat) : List (Nat × Nat) := (List.range i).flatMap fun n => (List.range (szOf c ts n)).map fun t => (n, t)
abbrev allTr (c : Con) (ts : List Try) : List (Nat × Nat) := trialsUpTo c ts ts.length
theorem trialsUpTo_succ (c : Con) (ts : List Try) (i : Nat) : trialsUpTo c ts (i + 1) = trialsUpTo c ts i ++ (List.range (szOf c ts i)).map fun t => (i, t) := by
  unfold trialsUpTo
  rw [List.range_succ, List.flatMap_append, List.flatMap_singleton]
theorem mem_trialsUpTo {c : Con} {ts : List Try} {i : Nat} {x : Nat × Nat} : x ∈ trialsUpTo c ts i ↔ x.1 < i ∧ x.2 < szOf c ts x.1 := by
  unfold trialsUpTo
  simp only [List.mem_flatMap, List.mem_range, List.mem_map]
  constructor
  · rintro ⟨n, hn, t, ht, rfl⟩
    exact ⟨hn, ht⟩
  · rintro ⟨h1, h2⟩
    exact ⟨x.1, h1, x.2, h2, rfl⟩
theorem trialsUpTo_len {c : Con} {ts : List Try} (oc : c.Ok) (ot : TriesOk c ts) : ∀ {i : Nat}, i ≤ ts.length → (trialsUpTo c ts i).length ≤ 20 * i
  | 0, _ => Nat.le_refl _
  | i + 1, h => by
    have h1 := trialsUpTo_len oc ot (i := i) (by omega)
    have h2 : szOf c ts i ≤ 20 := Con.size_le20 oc (ot.at (n := i) (by omega)).task
    rw [trialsUpTo_succ, List.length_append, List.length_map, List.length_range]
    omega
def vkD (vs : List Ver) : List (List Key × V) := vs.map fun v => (verK v, V.bl v.2.2)
def vpos (vs : List Ver) : List (Nat × Nat) := vs.map fun v => (v.1, v.2.1)
def Pre_truth (ds : List D) : Prop := ∃ (c : Con) (ts : List Try), ds = [c.d, trsD ts] ∧ c.Ok ∧ TriesOk c ts
def R_truth (ds : List D) (d : D) : Prop := ∃ (c : Con) (ts : List Try) (vs : List Ver), ds = [c.d, trsD ts] ∧ d = .tab (vkD vs) ∧ vpos vs = allTr c ts
abbrev sp__law_truth (K : PySem.W.Frag) : Sp := spR K Pre_truth R_truth
theorem vkD_put {vs : List Ver} {n t : Nat} {b : Bool} (h : (n, t) ∉ vpos vs) : putK (vkD vs) [.inl n, .inl t] (.bl b) = vkD (vs ++ [(n, t, b)]) := by
  have hnone : valV (vkD vs) (verK (n, t, b)) = none := valV_map_none fun x hx hxe => h (List.mem_map.mpr ⟨x, hx, verK_inj hxe⟩)
  unfold vkD at hnone ⊢
  rw [List.map_append]
  exact putK_new _ hnone
theorem ok__law_truth {f : Addr} {fd : FuncData} (F : Fun K "_law_truth" "_law_truth" s__law_truth f fd) (T : Tx K mg) (d__law_off : Dk P w K mg base 1 "_law_off" P__law_off (sp__law_off K)) (d__law_size : Dk P w K mg base 1 "_law_size" P__law_size (sp__law_size K)) : FnOk P w K mg base CX0 2 f fd P__law_truth (sp__law_truth K) := by
  refine F.ok sc__law_truth (fun vs H Q E h => ?_) (fun cdv A outer s H vs Q E hr h => ?_)
  · obtain ⟨p, ws, G, ds, rfl, e, gp, dc, ra, ⟨c, ts, rfl, oc, ot⟩, q⟩ := h
    exact congrArg (· + 1) ra.len
  · obtain ⟨p, ws, G, ds, rfl, e, gp, dc, ra, ⟨c, ts, rfl, oc, ot⟩, q⟩ := h
    obtain ⟨v1, v2, rfl, r1, r2⟩ := ra.two
    refine ⟨_, (pss_cons (ps_set (i := 3) sc__law_truth.nd rfl (by first | exact Or.inl rfl | exact Or.inr rfl) pe_dnewT)
    (pss_cons (ps_for PassesOwn.never rfl (pi_range1 (by rfl) T.n_range (pa_cons (pe_callB (call_lenK K rfl) (by rfl) T.n_len (by decide +kernel) (pa_cons (pv 2) pa_nil)) pa_nil)) (pg_name (i := 4) sc__law_truth.nd rfl (by first | exact Or.inl rfl | exact Or.inr rfl)) (pss_cons (ps_set (i := 5) sc__law_truth.nd rfl (by first | exact Or.inl rfl | exact Or.inr rfl) (pe_ix (ix_seqK K rfl) (pe_lst (pa_cons pe_int (pa_cons pe_int (pa_cons pe_int (pa_cons (pe_op op_pow pe_int pe_int) pa_nil))))) (pe_fn d__law_off (hr.mono (by decide)) (by rfl) (pa_cons (pv 0) (pa_cons pe_int pa_nil))) (fun _ _ => rfl)))
    (pss_one (ps_for PassesOwn.never rfl (pi_range1 (by rfl) T.n_range (pa_cons (pe_fn d__law_size (hr.mono (by decide)) (by rfl) (pa_cons (pv 1) (pa_cons (pe_ix (ix_seqK K rfl) (pe_ix (ix_seqK K rfl) (pv 2) (pv 4) (fun _ _ => rfl)) pe_int (fun _ _ => rfl)) pa_nil))) pa_nil)) (pg_name (i := 6) sc__law_truth.nd rfl (by first | exact Or.inl rfl | exact Or.inr rfl)) (pss_one (ps_dput (hu_of hr) (pv 3) (pe_tup (pa_cons (pv 4) (pa_cons (pv 6) pa_nil))) (pe_cmpR op_gt (pe_fn d__law_off (hr.mono (by decide)) (by rfl) (pa_cons (pv 0) (pa_cons (pv 5) pa_nil))) pe_int (nomark _)) rfl))))))
    (pss_one (ps_ret (pv 3))))), ?_⟩
    try dsimp only [cxOf, Cx.nox, Cx.wish]
    have S0 := Sd.refl e gp dc
    refine q_newTR S0 fun tl H1 tl1 tl2 tl3 tl4 S1 s1 tx => ?_
    have hl := ot.len
    have htl : (ts.map trD).length = ts.length := List.length_map _
    refine q_for (K := K) (n := ts.length) (js := [4]) (E := fun i => [.int i]) S1.s (i_rng1' (e_len (d := trsD ts) (by walk_at "ev") (congrArg some htl)) (by omega)) (fun i hi => g_name)
      (fun i σ' G' H' => G' p = none ∧ Dice p H' ∧ G' tl = none ∧ (∃ vs, H' tl = some (.dT (vkD vs)) ∧ vpos vs = trialsUpTo c ts i) ∧ ∃ w4 w5 w6, σ' = [some (.ref p), some v1, some v2, some (.ref tl), w4, w5, w6])
      (fun G5 H5 s5 => ⟨(S1.then s5).g, (S1.then s5).d, (s5.keep tl4 tx).1, ⟨[], (s5.keep tl4 tx).2, rfl⟩, _, _, _, rfl⟩) ?_ ?_
    · rintro Gw ew i hi σ' G' H' S' ew' ⟨gp', dc', tg', ⟨vs, tx', hvs⟩, w4, w5, w6, rfl⟩ G5 H5 us s5 ru
      obtain ⟨a, rfl, ra⟩ := ru.one
      cases ra
      have S5 : Sd p G H G5 H5 := (Sd.mk S' gp' dc').then s5
      obtain ⟨tg5, tx5⟩ := s5.keep tg' tx'
      refine qr_asg' (K := K) (R := Btw 2 1000000) S5 (by walk_at "drw") fun v5 d5 G6 H6 s6 S6 ⟨often, hd5, hT1, hT2⟩ r5 => ?_
      subst hd5
      have z5 := r5.int_of
      subst z5
      obtain ⟨tg6, tx6⟩ := s6.keep tl3 tg5 tx5
      have e6 : Ex G G6 := ew.trans (ew'.trans (s5.g.trans s6.gg))
      have q1 := r1.ex e6
      have q2 := r2.ex e6
      have hk := try_at hi
      have htk := (ot.at hi).task
      have h20 : szOf c ts i ≤ 20 := Con.size_le20 oc htk
      refine s_for (K := K) (n := szOf c ts i) (js := [6]) (E := fun j => [.int j]) S6.s (i_rng1' (e_call (a_cons (by walk_at "ev") (a_one (e_ix (d1 := trD (tryAt ts i)) (e_ix (d1 := trsD ts) (i := i) (by walk_at "ev") (e_var rfl (.int _)) (at_mapL hk)) e_int rfl))) ⟨c, (tryAt ts i).2.1, rfl, oc, htk, rfl⟩) (by omega)) (fun i hi => g_name)
        (fun j σ' G' H' => G' p = none ∧ Dice p H' ∧ G' tl = none ∧ (∃ vs, H' tl = some (.dT (vkD vs)) ∧ vpos vs = trialsUpTo c ts i ++ (List.range j).map fun t => (i, t)) ∧ ∃ w6, σ' = [some (.ref p), some v1, some v2, some (.ref tl), some (.int i), some (.int often), w6])
        (fun G5 H5 s5 => ⟨(S6.then s5).g, (S6.then s5).d, (s5.keep tg6 tx6).1, ⟨vs, (s5.keep tg6 tx6).2, by rw [hvs]; exact (List.append_nil _).symm⟩, _, rfl⟩) ?_ ?_
      · rintro Gv ev j hj σ' G' H' S' ev' ⟨gp', dc', tg', ⟨vs, tx', hvs⟩, w6, rfl⟩ G7 H7 us s7 ru
        obtain ⟨a, rfl, ra⟩ := ru.one
        cases ra
        have S7 : Sd p G H G7 H7 := (Sd.mk S' gp' dc').then s7
        obtain ⟨tg7, tx7⟩ := s7.keep tg' tx'
        have hlen : (vkD vs).length ≤ 20 * ts.length := by
          have h1 := congrArg List.length hvs
          have h2 := trialsUpTo_len oc ot (i := i) (by omega)
          rw [List.length_append, List.length_map, List.length_range] at h1
          unfold vkD
          rw [List.length_map]
          unfold vpos at h1
          rw [List.length_map] at h1
          omega
        refine s_dputTR (K := K) (R := IsBl) (ks := [.inl i, .inl j]) S7.ii S7.g S7.d tl3 tg7 tx7 rfl (r_cmp (r_off rfl (r_n (n := often) (by walk_at "ev")) (by omega) (by omega)) (r_lit (by decide))) (fun d ⟨b, hd⟩ => by subst hd; rfl) (e_tup2 (e_var rfl (.int _)) (e_var rfl (.int _))) rfl (by omega) fun d G8 H8 s8 tg8 ⟨b, hd⟩ => ?_
        subst hd
        show ∃ G3, _
        rw [show (D.bl b).toV = V.bl b from rfl, vkD_put (by
          rw [hvs]
          intro h
          rcases List.mem_append.mp h with h | h
          · exact absurd (mem_trialsUpTo.mp h).1 (Nat.lt_irrefl _)
          · obtain ⟨t, h1, h2⟩ := List.mem_map.mp h
            injection h2 with _ h2
            subst h2
            exact absurd (List.mem_range.mp h1) (Nat.lt_irrefl _))]
        have S8 := (S7.trans s8).mut (o := .dT (vkD (vs ++ [(i, j, b)]))) tl3 tl2 tg8
        refine ⟨G8, S8.s, ev'.trans (s7.g.trans s8.gg), S8.g, S8.d, tg8, ⟨vs ++ [(i, j, b)], upd_same, ?_⟩, _, rfl⟩
        unfold vpos at hvs ⊢
        rw [List.map_append, hvs, List.range_succ, List.map_append, List.append_assoc]
        rfl
      · rintro σ' G' H' S' ev' ⟨gp', dc', tg', ⟨vs, tx', hvs⟩, w6, rfl⟩
        refine ⟨G', S', ew'.trans (s5.g.trans (s6.gg.trans ev')), gp', dc', tg', ⟨vs, tx', ?_⟩, _, _, _, rfl⟩
        rw [hvs, trialsUpTo_succ]
    · rintro σ' G' H' S' ew' ⟨gp', dc', tg', ⟨vs, tx', hvs⟩, w4, w5, w6, rfl⟩
      have S6 := (Sd.mk S' gp' dc').freeze tl3 tl2 tg' tx'
      exact ⟨_, rfl, q _ _ _ H' S6.s S6.g S6.d ⟨c, ts, vs, rfl, rfl, hvs⟩ (.tab upd_same)⟩

end

section
variable [Tbs] {P : Program} {w : World} {K : PySem.W.Frag} {mg : Str → Option Value} {base : Heap}
abbrev s__law_some : Stmt := top 48
abbrev N__law_some : List Str := ["_law_d", "_law_truth_here", "_law_often", "_law_found", "_law_spot"]
abbrev P__law_some : List Str := ["_law_d", "_law_truth_here", "_law_often"]
theorem sc__law_some : FnScope N__law_some P__law_some (defScope s__law_some) := ⟨rfl, rfl, rfl, by decide +kernel, rfl, by decide +kernel, by decide +kernel⟩

/-- pairs that stand rising -/
def Rise (l : List (Nat × Nat)) : Prop := l.Pairwise fun a b => a.1 < b.1 ∨ (a.1 = b.1 ∧ a.2 < b.2)
theorem Rise.nodup {l : List (Nat × Nat)} (h : Rise l) : l.Nodup := h.imp fun {a b} h z => by subst z; omega
theorem Rise.srtd {l : List (Nat × Nat)} (h : Rise l) : SrtO.Srtd lexB (l.map fun x => ((x.1 : Int), (x.2 : Int))) := by
  refine List.pairwise_map.mpr (h.imp fun {a b} h => SrtO.lexB_no.mpr ?_)
  show ¬ _
  omega
theorem valV_at {vs : List Ver} (h : (vpos vs).Nodup) {v : Ver} (hv : v ∈ vs) : valV (vkD vs) (verK v) = some (.bl v.2.2) := by
  induction vs with
  | nil => cases hv
  | cons u us ih =>
    unfold vkD
    rw [List.map_cons]
    by_cases z : u = v
    · subst z
      exact valV_pos rfl
    · have hm : v ∈ us := by
        cases hv with
        | head => exact absurd rfl z
        | tail _ h => exact h
      have h2 := List.nodup_cons.mp h
      rw [valV_neg (fun e => h2.1 (List.mem_map.mpr ⟨v, hm, (verK_inj e).symm⟩))]
      exact ih h2.2 hm
def Pre_some (ds : List D) : Prop := ∃ (vs : List Ver) (m : Nat), ds = [.tab (vkD vs), .int m] ∧ Rise (vpos vs) ∧ vs.length ≤ 100000 ∧ 0 < m ∧ m ≤ 1000000
def R_some (ds : List D) (es : List D) : Prop := ∃ (vs : List Ver) (m : Nat) (sub ws : List Ver), ds = [.tab (vkD vs), .int m] ∧ es = ws.map vrD ∧ sub.Sublist vs ∧ ws.Perm sub
abbrev sp__law_some (K : PySem.W.Frag) : Sp := spRF K Pre_some R_some
theorem perm_map_inv {α β : Type} {f : α → β} : ∀ {xs : List α} {ys : List β}, ys.Perm (xs.map f) → ∃ zs : List α, ys = zs.map f ∧ zs.Perm xs := by
  intro xs ys h
  generalize hl : xs.map f = l at h
  induction h generalizing xs with
  | nil =>
    cases xs with
    | nil => exact ⟨[], rfl, .nil⟩
    | cons _ _ => cases hl
  | cons x h ih =>
    cases xs with
    | nil => cases hl
    | cons a as =>
      injection hl with h1 h2
      obtain ⟨zs, e, p⟩ := ih h2
      exact ⟨a :: zs, by rw [List.map_cons, h1, e], p.cons a⟩
  | swap x y l =>
    match xs, hl with
    | a :: b :: as, hl =>
      injection hl with h1 h2
      injection h2 with h2 h3
      exact ⟨b :: a :: as, by rw [List.map_cons, List.map_cons, h1, h2, h3], .swap _ _ _⟩
  | trans h1 h2 ih1 ih2 =>
    obtain ⟨zs, e, p⟩ := ih2 hl
    obtain ⟨ws, e2, p2⟩ := ih1 e.symm
    exact ⟨ws, e2, p2.trans p⟩
theorem pick_sub {α : Type} {xs : List α} {b : Nat → Bool} {f : α → D} {g : Nat → D} (hg : ∀ i x, xs[i]? = some x → g i = f x) : ∃ sub : List α, sub.Sublist xs ∧ pick xs.length b g = sub.map f := by
  refine ⟨((List.range xs.length).filter b).filterMap fun i => xs[i]?, ?_, ?_⟩
  · have h : (List.range xs.length).filterMap (fun i => xs[i]?) = xs := by
      have h2 : (List.range xs.length).map (fun i => xs[i]?) = xs.map some := by
        apply List.ext_getElem?
        intro i
        rw [List.getElem?_map, List.getElem?_map]
        by_cases hi : i < xs.length
        · rw [List.getElem?_range hi, List.getElem?_eq_getElem hi]
          show some (xs[i]?) = some (some xs[i])
          rw [List.getElem?_eq_getElem hi]
        · rw [List.getElem?_eq_none (by rw [List.length_range]; omega), List.getElem?_eq_none (by omega)]
          rfl
      have h3 : (List.range xs.length).filterMap (fun i => xs[i]?) = ((List.range xs.length).map fun i => xs[i]?).filterMap id := by rw [List.filterMap_map]; rfl
      rw [h3, h2, List.filterMap_map]
      exact List.filterMap_some
    have h4 := (List.filter_sublist (l := List.range xs.length) (p := b)).filterMap (fun i => xs[i]?)
    rw [h] at h4
    exact h4
  · unfold pick
    rw [List.map_filterMap]
    have : ∀ l : List Nat, (∀ i ∈ l, i < xs.length) → l.map g = l.filterMap fun i => (xs[i]?).map f := by
      intro l hl
      induction l with
      | nil => rfl
      | cons i l ih =>
        have hi := hl i List.mem_cons_self
        rw [List.map_cons, List.filterMap_cons, List.getElem?_eq_getElem hi, ih fun j hj => hl j (List.mem_cons_of_mem _ hj), hg i _ (List.getElem?_eq_getElem hi)]
        rfl
    exact this _ fun i hi => List.mem_range.mp (List.mem_filter.mp hi).1
theorem ok__law_some {f : Addr} {fd : FuncData} (F : Fun K "_law_some" "_law_some" s__law_some f fd) (T : Tx K mg) (d__law_mixed : Dk P w K mg base 2 "_law_mixed" P__law_mixed (sp__law_mixed K)) (d__law_off : Dk P w K mg base 1 "_law_off" P__law_off (sp__law_off K)) : FnOk P w K mg base CX0 3 f fd P__law_some (sp__law_some K) := by
  refine F.ok sc__law_some (fun vs H Q E h => ?_) (fun cdv A outer s H vs Q E hr h => ?_)
  · obtain ⟨p, ws, G, ds, rfl, e, gp, dc, ra, ⟨vs, m, rfl, hr', hlen, hm0, hm1⟩, q⟩ := h
    exact congrArg (· + 1) ra.len
  · obtain ⟨p, ws, G, ds, rfl, e, gp, dc, ra, ⟨vs, m, rfl, hr', hlen, hm0, hm1⟩, q⟩ := h
    obtain ⟨v1, v2, rfl, r1, r2⟩ := ra.two
    refine ⟨_, (pss_cons (ps_setLc (i := 3) (own := [("_law_spot", 4)]) (g := gName 4) (tt := _) rfl sc__law_some.nd rfl rfl (sw_true rfl rfl rfl (by decide +kernel)) (pi_seqK K rfl (pe_callB (cr_sortedDT rfl) (by rfl) T.n_sorted (by decide +kernel) (pa_cons (pv 1) pa_nil))) (blkOk_by (own := [("_law_spot", 4)]) (N := N__law_some) (sc := defScope s__law_some) (by decide +kernel)) (fun _ _ _ _ _ => (pg_name (i := 4) sc__law_some.nd rfl (by first | exact Or.inl rfl | exact Or.inr rfl))) (fun _ _ _ _ _ => (pts_one (pt_cmpR op_gt (pe_fn d__law_off (hr.mono (by decide)) (by rfl) (pa_cons (pv 0) (pa_cons (pv 2) pa_nil))) pe_int (nomark _)))) (fun _ _ _ _ _ => (pe_op (op_addK K rfl) (pv 4) (pe_tup (pa_cons (pe_dget (hu_of hr) (pv 1) (pv 4) (fun _ _ => rfl)) pa_nil)))))
    (pss_one (ps_ret (pe_fn d__law_mixed (hr.mono (by decide)) (by rfl) (pa_cons (pv 0) (pa_cons (pv 3) pa_nil)))))), ?_⟩
    try dsimp only [cxOf, Cx.nox, Cx.wish]
    have S0 := Sd.refl e gp dc
    have hpl : (vpos vs).length = vs.length := List.length_map _
    refine qrf_asg (K := K) S0 (f_lcR (K := K) (n := vs.length) (js := [4]) (fun i => [nth (((vpos vs).map fun x => ((x.1 : Int), (x.2 : Int))).map fun k => D.tup [.int k.1, .int k.2]) i]) (fun i => nth (vs.map vrD) i)
      (i_seqL' (by rw [List.length_map, List.length_map, hpl]) (EvF.toD (f_sortedDT (kvs := vkD vs) (ks := (vpos vs).map fun x => ((x.1 : Int), (x.2 : Int))) (by walk_at "ev") ?_ hr'.srtd)))
      (fun i hi => g_name) (by omega) (fun _ _ => rfl) (fun us h => match us, h with | [_], _ => rfl) (fun i hi G1 e1 us ru => ?_) (fun i hi G1 e1 us ru => ?_)) fun ql xs ds G1 H1 S1 q1 q2 q3 ⟨b, hb⟩ rx => ?_
    · unfold vkD vpos
      rw [List.map_map, List.map_map, List.map_map]
      rfl
    · obtain ⟨y, rfl, ry⟩ := ru.one
      exact br_test (r_cmp (r_off rfl (r_n (n := m) (e_var rfl (r2.ex e1))) (by omega) (by omega)) (r_lit (by decide)))
    · obtain ⟨y, rfl, ry⟩ := ru.one
      have hv : vs[i]? = some vs[i] := List.getElem?_eq_getElem hi
      have e2 : nth (((vpos vs).map fun x => ((x.1 : Int), (x.2 : Int))).map fun k => D.tup [.int k.1, .int k.2]) i = .tup [.int vs[i].1, .int vs[i].2.1] := by
        refine nth_of ?_
        unfold vpos
        rw [List.getElem?_map, List.getElem?_map, List.getElem?_map, hv]
        rfl
      rw [e2] at ry
      rw [nth_map hv]
      exact e_catT (ds := [.int vs[i].1, .int vs[i].2.1]) (es := [.bl vs[i].2.2]) (e_var rfl ry) (e_tup1 (e_dget (kvs := vkD vs) (ks := verK vs[i]) (e_var rfl (r1.ex e1)) (e_var rfl ry) rfl (valV_at hr'.nodup (List.getElem_mem hi)) rfl)) (fun z => nomatch z) (fun z => nomatch z) (by show 2 + 1 ≤ 1000000; decide)
    · obtain ⟨sub, hs, hp⟩ := pick_sub (xs := vs) (b := b) (f := vrD) (g := fun i => nth (vs.map vrD) i) fun i x hx => nth_map hx
      rw [hp] at hb
      subst hb
      have n1 := dc.ne q1
      have S2 := S1.freeze n1 q1 q2 q3
      have hsl := hs.length_le
      refine srf_ret (K := K) S2 (rf_call1 rfl (a_one (e_var (d := .lst (sub.map vrD)) rfl (.lst upd_same (rx.ex (Ex.new q2))))) ⟨sub.map vrD, rfl, fun x hx => ?_, by rw [List.length_map]; omega⟩) fun q' xs' ds' G2 H2 S3 a1 a2 a3 ⟨xs0, e0, pm⟩ r3 => ?_
      · obtain ⟨v, _, rfl⟩ := List.mem_map.mp hx
        rfl
      · injection e0 with e0
        injection e0 with e0
        subst e0
        obtain ⟨ws, e1, pm2⟩ := perm_map_inv pm
        exact q q' xs' ds' G2 H2 S3 a1 a2 a3 ⟨vs, m, sub, ws, rfl, e1, hs, pm2⟩ r3

end

section
variable [Tbs] {P : Program} {w : World} {K : PySem.W.Frag} {mg : Str → Option Value} {base : Heap}
abbrev s__law_case : Stmt := top 49
abbrev N__law_case : List Str := ["_law_d", "_law_rules", "_law_most", "_law_contest_here", "_law_tries_here"]
abbrev P__law_case : List Str := ["_law_d", "_law_rules", "_law_most"]
theorem sc__law_case : FnScope N__law_case P__law_case (defScope s__law_case) := ⟨rfl, rfl, rfl, by decide +kernel, rfl, by decide +kernel, by decide +kernel⟩

def Pre_case (ds : List D) : Prop := ∃ (rs : List Str) (m : Nat), ds = [.lst (rs.map D.str), .int m] ∧ (0 < rs.length ∧ rs.length ≤ 1000 ∧ ∀ r ∈ rs, r = sFirst ∨ r = sBest ∨ r = sGroups) ∧ m ≤ 200
def R_case (ds : List D) (d : D) : Prop := ∃ (rs : List Str) (m : Nat) (c : Con) (ts : List Try) (vs : List Ver), ds = [.lst (rs.map D.str), .int m] ∧ d = .tup [c.d, trsD ts, .tab (vkD vs)] ∧ c.Ok ∧ c.rule ∈ rs ∧ TriesOk c ts ∧ ts.length ≤ m ∧ vpos vs = allTr c ts
abbrev sp__law_case (K : PySem.W.Frag) : Sp := spR K Pre_case R_case
theorem map_inj' {α β : Type} {f : α → β} (hf : ∀ a b, f a = f b → a = b) : ∀ {xs ys : List α}, xs.map f = ys.map f → xs = ys
  | [], [], _ => rfl
  | [], _ :: _, h => nomatch h
  | _ :: _, [], h => nomatch h
  | x :: xs, y :: ys, h => by
    rw [List.map_cons, List.map_cons] at h
    injection h with h1 h2
    rw [hf x y h1, map_inj' hf h2]
theorem dint_inj {a b : Nat} (h : D.int a = D.int b) : a = b := by
  injection h with h
  omega
theorem gD_inj (a b : Nat × Nat) (h : gD a = gD b) : a = b := by
  injection h with h
  injection h with h1 h
  injection h with h2 h
  exact Prod.ext (dint_inj h1) (dint_inj h2)
theorem tkD_inj (a b : List (Nat × Nat) × Nat) (h : tkD a = tkD b) : a = b := by
  injection h with h
  injection h with h1 h
  injection h with h2 h
  injection h1 with h1
  exact Prod.ext (map_inj' gD_inj h1) (dint_inj h2)
theorem Con.d_inj {a b : Con} (h : a.d = b.d) : a = b := by
  obtain ⟨a1, a2, a3, a4, a5⟩ := a
  obtain ⟨b1, b2, b3, b4, b5⟩ := b
  injection h with h
  injection h with h1 h
  injection h with h2 h
  injection h with h3 h
  injection h with h4 h
  injection h with h5 h
  injection h1 with h1
  injection h5 with h5
  have h1 : a1 = b1 := h1
  have e2 : a2 = b2 := dint_inj h2
  have e3 : a3 = b3 := dint_inj h3
  have e4 : a4 = b4 := dint_inj h4
  have e5 : a5 = b5 := map_inj' tkD_inj h5
  subst h1 e2 e3 e4 e5
  rfl
theorem trD_inj (a b : Try) (h : trD a = trD b) : a = b := by
  obtain ⟨a1, a2, a3⟩ := a
  obtain ⟨b1, b2, b3⟩ := b
  injection h with h
  injection h with h1 h
  injection h with h2 h
  injection h with h3 h
  have e1 : a1 = b1 := dint_inj h1
  have e2 : a2 = b2 := dint_inj h2
  have e3 : a3 = b3 := dint_inj h3
  subst e1 e2 e3
  rfl
theorem trsD_inj {a b : List Try} (h : trsD a = trsD b) : a = b := by
  injection h with h
  exact map_inj' trD_inj h
theorem Con.args_inj {a b : Con} {xs ys : List D} (h : a.d :: xs = b.d :: ys) : a = b ∧ xs = ys := by
  injection h with h1 h2
  exact ⟨Con.d_inj h1, h2⟩
theorem rs_inj {rs rs' : List Str} {xs ys : List D} (h : D.lst (rs.map D.str) :: xs = D.lst (rs'.map D.str) :: ys) : rs = rs' := by
  injection h with h1 h2
  injection h1 with h1
  exact map_inj' (fun a b h => by injection h) h1
theorem ok__law_case {f : Addr} {fd : FuncData} (F : Fun K "_law_case" "_law_case" s__law_case f fd) (T : Tx K mg) (d__law_contest : Dk P w K mg base 2 "_law_contest" P__law_contest (sp__law_contest K)) (d__law_tries : Dk P w K mg base 2 "_law_tries" P__law_tries (sp__law_tries K)) (d__law_truth : Dk P w K mg base 2 "_law_truth" P__law_truth (sp__law_truth K)) : FnOk P w K mg base CX0 3 f fd P__law_case (sp__law_case K) := by
  refine F.ok sc__law_case (fun vs H Q E h => ?_) (fun cdv A outer s H vs Q E hr h => ?_)
  · obtain ⟨p, ws, G, ds, rfl, e, gp, dc, ra, ⟨rs, m, rfl, hrs, hm⟩, q⟩ := h
    exact congrArg (· + 1) ra.len
  · obtain ⟨p, ws, G, ds, rfl, e, gp, dc, ra, ⟨rs, m, rfl, hrs, hm⟩, q⟩ := h
    obtain ⟨v1, v2, rfl, r1, r2⟩ := ra.two
    refine ⟨_, (pss_cons (ps_set (i := 3) sc__law_case.nd rfl (by first | exact Or.inl rfl | exact Or.inr rfl) (pe_fn d__law_contest (hr.mono (by decide)) (by rfl) (pa_cons (pv 0) (pa_cons (pv 1) pa_nil))))
    (pss_cons (ps_set (i := 4) sc__law_case.nd rfl (by first | exact Or.inl rfl | exact Or.inr rfl) (pe_fn d__law_tries (hr.mono (by decide)) (by rfl) (pa_cons (pv 0) (pa_cons (pv 3) (pa_cons (pv 2) pa_nil)))))
    (pss_one (ps_ret (pe_tup (pa_cons (pv 3) (pa_cons (pv 4) (pa_cons (pe_fn d__law_truth (hr.mono (by decide)) (by rfl) (pa_cons (pv 0) (pa_cons (pv 3) (pa_cons (pv 4) pa_nil)))) pa_nil)))))))), ?_⟩
    try dsimp only [cxOf, Cx.nox, Cx.wish]
    have S0 := Sd.refl e gp dc
    have z2 := r2.int_of
    subst z2
    refine qr_asg' (K := K) S0 (r_call1 rfl (a_one (e_var rfl r1)) ⟨rs, rfl, hrs⟩) fun v3 d3 G1 H1 s1 S1 ⟨rs', c, e1, hd3, oc, hrule⟩ r3 => ?_
    subst hd3
    have e1 := rs_inj e1
    subst e1
    refine qrf_asg (K := K) S1 (rf_call1 rfl (a_cons (e_var rfl r3) (a_one (e_var rfl (.int _)))) ⟨c, m, rfl, oc, hm⟩) fun tl xs ds G2 H2 s2 t1 t2 t3 ⟨c', m', ts, e2, e3, ot, hl⟩ rx => ?_
    obtain ⟨rfl, f2⟩ := Con.args_inj e2
    have g2 : m = m' := by injection f2 with f2; exact dint_inj f2
    subst g2 e3
    have n2 := S1.d.ne t1
    have S2 := (S1.trans s2).freeze n2 (S1.pre t1 n2) t2 t3
    have rt : Rp K (upd G2 tl (.lst xs)) (.ref tl) (trsD ts) := .lst upd_same (rx.ex (Ex.new t2))
    have rc : Rp K (upd G2 tl (.lst xs)) v3 c.d := r3.ex (s2.gg.trans (Ex.new t2))
    refine sr_ret' (K := K) (R := R_case [.lst (rs.map D.str), .int m]) S2 (r_tup (rs_cons (RA := fun d => d = c.d) (r_of (e_var rfl rc) rfl) (rs_cons (RA := fun d => d = trsD ts) (r_of (e_var rfl rt) rfl)
      (rs_one (r_call1 rfl (a_cons (e_var rfl rc) (a_one (e_var rfl rt))) ⟨c, ts, rfl, oc, ot⟩) (Rs := fun ds => ∃ vs, ds = [.tab (vkD vs)] ∧ vpos vs = allTr c ts) fun d ⟨c', ts', vs, e5, e6, e7⟩ => ?_) (Rs := fun ds => ∃ vs, ds = [trsD ts, .tab (vkD vs)] ∧ vpos vs = allTr c ts) fun d ds e5 ⟨vs, e6, e7⟩ => ?_) fun d ds e5 ⟨vs, e6, e7⟩ => ?_)) fun v d G3 H3 S3 hR rv => q v d G3 H3 S3.s S3.g S3.d hR rv
    · obtain ⟨rfl, f5⟩ := Con.args_inj e5
      have g5 : ts = ts' := by injection f5 with f5; exact trsD_inj f5
      subst g5 e6
      exact ⟨vs, rfl, e7⟩
    · subst e5 e6
      exact ⟨vs, rfl, e7⟩
    · subst e5 e6
      exact ⟨(by show 3 ≤ 1000; decide), rs, m, c, ts, vs, rfl, rfl, oc, hrule, ot, hl, e7⟩

end

section
variable [Tbs] {P : Program} {w : World} {K : PySem.W.Frag} {mg : Str → Option Value} {base : Heap}

theorem numsOf_lt {ts : List Try} {a b c k : Nat} (h : k ∈ numsOf ts a b c) : k < ts.length := List.mem_range.mp (List.mem_filter.mp h).1
/-- whether no trial of a try matters -/
def isOver (c : Con) (ts : List Try) (tb : Nat → Nat → Option Bool) (n : Nat) : Bool :=
  decide (c.fin ≤ (tryAt ts n).2.2) || (decide (c.rule = sFirst) && (decide (tSt c ts tb n = .failed) ||
    (((numsOf ts (tryAt ts n).1 (tryAt ts n).2.1 c.fin).filter fun k => decide (k < n)).any fun k => decide (tSt c ts tb k = .passed))))
def R_is_over (ds : List D) (r : D) : Prop := ∃ (c : Con) (ts : List Try) (kvs : List (List Key × V)) (tb : Nat → Nat → Option Bool) (n : Nat), ds = [c.d, trsD ts, .tab kvs, .int n] ∧ c.Ok ∧ TriesOk c ts ∧ TabOk kvs tb ∧ n < ts.length ∧ r = .bl (isOver c ts tb n)
abbrev sp_is_over (K : PySem.W.Frag) : Sp := spP K R_is_over
end

section
variable [Tbs] {P : Program} {w : World} {K : PySem.W.Frag} {mg : Str → Option Value} {base : Heap}

/-- the trials of one group of try n that matter and aren't judged -/
def openG (gs : List (Nat × Nat)) (f : Nat → Option Bool) (g : Nat) : List Nat :=
  if gSt gs f g = .failed then [] else ((List.range (grp gs g).1).filter fun j => (f (pre gs g + j)).isNone).map fun j => pre gs g + j
def openTo (gs : List (Nat × Nat)) (f : Nat → Option Bool) (i : Nat) : List Nat := (List.range i).flatMap (openG gs f)
def openTr (c : Con) (ts : List Try) (tb : Nat → Nat → Option Bool) (n : Nat) : List Nat := if isOver c ts tb n = true then [] else openTo (gsOf c ts n) (tb n) (gsOf c ts n).length
def R_open_trials (ds : List D) (r : List D) : Prop := ∃ (c : Con) (ts : List Try) (kvs : List (List Key × V)) (tb : Nat → Nat → Option Bool) (n : Nat), ds = [c.d, trsD ts, .tab kvs, .int n] ∧ c.Ok ∧ TriesOk c ts ∧ TabOk kvs tb ∧ n < ts.length ∧ r = (openTr c ts tb n).map natD
abbrev sp_open_trials (K : PySem.W.Frag) : Sp := spF K R_open_trials
theorem openG_len (gs : List (Nat × Nat)) (f : Nat → Option Bool) (g : Nat) : (openG gs f g).length ≤ (grp gs g).1 := by
  unfold openG
  split
  · exact Nat.zero_le _
  · rw [List.length_map]
    have := List.length_filter_le (fun j => (f (pre gs g + j)).isNone) (List.range (grp gs g).1)
    rw [List.length_range] at this
    exact this
theorem openTo_succ (gs : List (Nat × Nat)) (f : Nat → Option Bool) (i : Nat) : openTo gs f (i + 1) = openTo gs f i ++ openG gs f i := by
  unfold openTo
  rw [List.range_succ, List.flatMap_append, List.flatMap_singleton]
theorem openTo_len {gs : List (Nat × Nat)} {f : Nat → Option Bool} : ∀ {i : Nat}, i ≤ gs.length → (openTo gs f i).length ≤ pre gs i
  | 0, _ => Nat.le_refl _
  | i + 1, h => by
    rw [openTo_succ, List.length_append, pre_succ (by omega)]
    have := openTo_len (gs := gs) (f := f) (i := i) (by omega)
    have := openG_len gs f i
    omega
end

section
variable [Tbs] {P : Program} {w : World} {K : PySem.W.Frag} {mg : Str → Option Value} {base : Heap}

def prD (x : Nat × Nat) : D := .tup [.int x.1, .int x.2]
def openUpTo (c : Con) (ts : List Try) (tb : Nat → Nat → Option Bool) (i : Nat) : List (Nat × Nat) := (List.range i).flatMap fun n => (openTr c ts tb n).map fun t => (n, t)
def allOpen (c : Con) (ts : List Try) (tb : Nat → Nat → Option Bool) : List (Nat × Nat) := openUpTo c ts tb ts.length
def R_all_open (ds : List D) (r : List D) : Prop := ∃ (c : Con) (ts : List Try) (kvs : List (List Key × V)) (tb : Nat → Nat → Option Bool), ds = [c.d, trsD ts, .tab kvs] ∧ c.Ok ∧ TriesOk c ts ∧ TabOk kvs tb ∧ r = (allOpen c ts tb).map prD
abbrev sp_all_open (K : PySem.W.Frag) : Sp := spF K R_all_open
theorem openUpTo_succ (c : Con) (ts : List Try) (tb : Nat → Nat → Option Bool) (i : Nat) : openUpTo c ts tb (i + 1) = openUpTo c ts tb i ++ (openTr c ts tb i).map fun t => (i, t) := by
  unfold openUpTo
  rw [List.range_succ, List.flatMap_append, List.flatMap_singleton]
theorem openTr_len {c : Con} {ts : List Try} (oc : c.Ok) (ot : TriesOk c ts) (tb : Nat → Nat → Option Bool) {n : Nat} (h : n < ts.length) : (openTr c ts tb n).length ≤ 20 := by
  unfold openTr
  split
  · exact Nat.zero_le _
  · have h1 := openTo_len (gs := gsOf c ts n) (f := tb n) (Nat.le_refl (gsOf c ts n).length)
    have h2 : sizeG (gsOf c ts n) ≤ 20 := Con.size_le20 oc (ot.at h).task
    rw [pre_full] at h1
    omega
theorem openUpTo_len {c : Con} {ts : List Try} (oc : c.Ok) (ot : TriesOk c ts) (tb : Nat → Nat → Option Bool) : ∀ {i : Nat}, i ≤ ts.length → (openUpTo c ts tb i).length ≤ 20 * i
  | 0, _ => Nat.le_refl _
  | i + 1, h => by
    rw [openUpTo_succ, List.length_append, List.length_map]
    have h1 := openUpTo_len oc ot tb (i := i) (by omega)
    have h2 := openTr_len oc ot tb (n := i) (by omega)
    omega
end

section
variable [Tbs] {P : Program} {w : World} {K : PySem.W.Frag} {mg : Str → Option Value} {base : Heap}

/-- scores as lists of whole numbers -/
def scD (s : List Int) : D := .tup (s.map D.int)
def rankL (s : List Int) : List Int := (0 - s.headD 0) :: s.tail
def ScOk (s : List Int) : Prop := s ≠ [] ∧ s.length ≤ 10
theorem e_tail {σ : L2.St} {G : Hp} {te : TE} {s : List Int} (h : EvD K te σ G (scD s)) (hs : s ≠ []) : EvD K (tSl (rSlA K) te (tPart (tC (.int 1))) tNoPart) σ G (scD s.tail) := by
  refine e_slT h (p_some (e_int (K := K))) p_none ?_ ?_
  · rintro ⟨z, _⟩
    have e : HT.sIx (s.map D.int).length 0 (some (1 : Int)) = min 1 (s.map D.int).length := HT.sIx_nat _ _ 1
    rw [e, List.length_map] at z
    have : 0 < s.length := List.length_pos_iff.mpr hs
    omega
  · cases s with
    | nil => exact absurd rfl hs
    | cons a s =>
      unfold cutD
      have e : HT.sIx ((a :: s).map D.int).length 0 (some (1 : Int)) = min 1 ((a :: s).map D.int).length := HT.sIx_nat _ _ 1
      rw [e, HT.sIx_none, List.length_map, List.length_cons]
      have e2 : min 1 (s.length + 1) = 1 := by omega
      rw [e2]
      show List.take (s.length + 1 - 1) (s.map D.int) = s.map D.int
      rw [List.take_of_length_le (by rw [List.length_map]; omega)]
def R_rank_of (ds : List D) (r : D) : Prop := ∃ s, ds = [scD s] ∧ ScOk s ∧ r = scD (rankL s)
abbrev sp_rank_of (K : PySem.W.Frag) : Sp := spP K R_rank_of
end

section
variable [Tbs] {P : Program} {w : World} {K : PySem.W.Frag} {mg : Str → Option Value} {base : Heap}

abbrev Row := Nat × Nat × List Int
def rowD (r : Row) : D := .tup [.int r.1, .int r.2.1, scD r.2.2]
def scAt (ss : List (List Int)) (t : Nat) : List Int := ss.getD t []
def placeOf (ss : List (List Int)) (t : Nat) : Nat := 1 + (ss.filter fun s => HT.lexLt (rankL s) (rankL (scAt ss t))).length
def rowsOf (ss : List (List Int)) (n : Nat) : List Row := (List.range n).map fun t => (placeOf ss t, t, scAt ss t)
abbrev rowKey (r : Row) : Nat × Nat := (r.1, r.2.1)
def placedL (ss : List (List Int)) : List Row := (rowsOf ss ss.length).mergeSort (rowLe rowKey)
theorem sc_at {ss : List (List Int)} {t : Nat} (h : t < ss.length) : ss[t]? = some (scAt ss t) := by
  unfold scAt
  rw [List.getD_eq_getElem?_getD, List.getElem?_eq_getElem h]
  rfl
def R_placed (ds : List D) (r : List D) : Prop := ∃ ss : List (List Int), ds = [.lst (ss.map scD)] ∧ (∀ s ∈ ss, ScOk s) ∧ ss.length ≤ 1000 ∧ r = (placedL ss).map rowD
abbrev sp_placed (K : PySem.W.Frag) : Sp := spFm K R_placed
end

section
variable [Tbs] {P : Program} {w : World} {K : PySem.W.Frag} {mg : Str → Option Value} {base : Heap}

def lateAt (c : Con) (t : Try) : Bool := decide (c.due t.2.1 ≤ t.2.2)
def solvedFrom (c : Con) (ts : List Try) (tb : Nat → Nat → Option Bool) : Nat → List Nat → Option (Nat × Nat)
  | _, [] => none
  | w, n :: ns => if tSt c ts tb n = .passed then some ((tryAt ts n).2.2 + 20 * w + 60 * (lateAt c (tryAt ts n)).toNat, (tryAt ts n).2.2) else solvedFrom c ts tb (w + (decide (tSt c ts tb n = .failed)).toNat) ns
theorem solved_cons (c : Con) (ts : List Try) (tb : Nat → Nat → Option Bool) (w n : Nat) (ns : List Nat) : solvedFrom c ts tb w (n :: ns) = if tSt c ts tb n = .passed then some ((tryAt ts n).2.2 + 20 * w + 60 * (lateAt c (tryAt ts n)).toNat, (tryAt ts n).2.2) else solvedFrom c ts tb (w + (decide (tSt c ts tb n = .failed)).toNat) ns := rfl
def solD : Option (Nat × Nat) → D
  | none => .non
  | some x => .tup [.int x.1, .int x.2]
def R_solved_at (ds : List D) (r : D) : Prop := ∃ (c : Con) (ts : List Try) (kvs : List (List Key × V)) (tb : Nat → Nat → Option Bool) (ns : List Nat), ds = [c.d, trsD ts, .tab kvs, .lst (ns.map natD)] ∧ c.Ok ∧ TriesOk c ts ∧ TabOk kvs tb ∧ (∀ n ∈ ns, n < ts.length) ∧ ns.length ≤ 200 ∧ r = solD (solvedFrom c ts tb 0 ns)
abbrev sp_solved_at (K : PySem.W.Frag) : Sp := spP K R_solved_at
end

section
variable [Tbs] {P : Program} {w : World} {K : PySem.W.Frag} {mg : Str → Option Value} {base : Heap}

def worth (c : Con) (t : Try) (p : Nat) : Nat := if lateAt c t = true then p / 2 else p
def R_worth_of (ds : List D) (r : D) : Prop := ∃ (c : Con) (ts : List Try) (n p : Nat), ds = [c.d, trsD ts, .int n, .int p] ∧ c.Ok ∧ TriesOk c ts ∧ n < ts.length ∧ r = .int (worth c (tryAt ts n) p)
abbrev sp_worth_of (K : PySem.W.Frag) : Sp := spP K R_worth_of
end

section
variable [Tbs] {P : Program} {w : World} {K : PySem.W.Frag} {mg : Str → Option Value} {base : Heap}

theorem s_setOv {Dn : Ends} {σ : L2.St} {G H : Hp} {te : TE} {d : D} {p : Addr} {i ix j : Nat} {xs : List V} (e : Ex G H) (hp : G p = none) (hx : H p = some (.lst xs)) (hi : σ[i]? = some (some (.ref p))) (hix : σ[ix]? = some (some (.int j))) (h : EvD K te σ (upd G p (.lst xs)) d) (hf : d.flat = true) (hj : j < xs.length)
    (k : ∀ G1 H1, Step G H G1 H1 → G1 p = none → Dn.nx σ (upd H1 p (.lst (xs.set j d.toV)))) : tAsg te (gSub (tVar i) (tVar ix) rSetL) Dn σ H :=
  h H (ex_own e hx) _ fun v G1 H1 s r => by
    obtain ⟨G2, s2, g2, x2, _⟩ := s.thaw hp hx
    rw [(r.flat hf).1]
    exact ⟨_, hi, _, hix, p, xs, (j : Int), j, rfl, rfl, x2, Evl.ixN_nat hj, k G2 H1 s2 g2⟩
def passedG (gs : List (Nat × Nat)) (f : Nat → Option Bool) : List Nat := (List.range gs.length).filter fun g => decide (gSt gs f g = .passed)
def ptsOf (gs : List (Nat × Nat)) (l : List Nat) : Nat := (l.map fun g => (grp gs g).2).sum
/-- what try n is worth by its groups that passed -/
def bestN (c : Con) (ts : List Try) (tb : Nat → Nat → Option Bool) (gs : List (Nat × Nat)) (n : Nat) : Nat := worth c (tryAt ts n) (ptsOf gs (passedG gs (tb n)))
def bestU (c : Con) (ts : List Try) (tb : Nat → Nat → Option Bool) (gs : List (Nat × Nat)) (ns : List Nat) : Nat := ns.foldl (fun b n => max b (bestN c ts tb gs n)) 0
def singU (c : Con) (ts : List Try) (tb : Nat → Nat → Option Bool) (gs : List (Nat × Nat)) (ns : List Nat) (g : Nat) : Nat := ns.foldl (fun b n => if gSt gs (tb n) g = .passed then max b (worth c (tryAt ts n) (grp gs g).2) else b) 0
def pointsAt (c : Con) (ts : List Try) (tb : Nat → Nat → Option Bool) (k : Nat) (ns : List Nat) : Nat :=
  if c.rule = sBest then bestU c ts tb (c.groups k) ns else ((List.range (c.groups k).length).map (singU c ts tb (c.groups k) ns)).sum
def R_points_at (ds : List D) (r : D) : Prop := ∃ (c : Con) (ts : List Try) (kvs : List (List Key × V)) (tb : Nat → Nat → Option Bool) (ns : List Nat) (k : Nat), ds = [c.d, trsD ts, .tab kvs, .lst (ns.map natD), .int k] ∧ c.Ok ∧ TriesOk c ts ∧ TabOk kvs tb ∧ (∀ n ∈ ns, n < ts.length ∧ (tryAt ts n).2.1 = k) ∧ ns.length ≤ 200 ∧ k < c.tasks.length ∧ r = .int (pointsAt c ts tb k ns)
abbrev sp_points_at (K : PySem.W.Frag) : Sp := spP K R_points_at
theorem set_range {L j : Nat} {f : Nat → Nat} {v : Nat} : ((List.range L).map f).set j v = (List.range L).map fun g => if g = j then v else f g := by
  apply List.ext_getElem?
  intro i
  rw [List.getElem?_set, List.getElem?_map, List.getElem?_map, List.length_map, List.length_range]
  by_cases hi : i < L
  · rw [List.getElem?_range hi]
    by_cases hj : j = i
    · subst hj
      rw [if_pos rfl, if_pos hi]
      show some v = some (if j = j then v else f j)
      rw [if_pos rfl]
    · rw [if_neg hj]
      show some (f i) = some (if i = j then v else f i)
      rw [if_neg (Ne.symm hj)]
  · rw [List.getElem?_eq_none (by rw [List.length_range]; omega)]
    by_cases hj : j = i
    · rw [if_pos hj, if_neg (by omega)]; rfl
    · rw [if_neg hj]; rfl
theorem take_snoc {α : Type} {l : List α} {i : Nat} {a : α} (h : l[i]? = some a) : l.take (i + 1) = l.take i ++ [a] := by
  rw [List.take_add_one, h]
  rfl
theorem RpA.of_nats {H : Hp} {l : List Nat} {f : Nat → Nat} : RpA K H (l.map fun g => V.int (f g)) (l.map fun g => D.int (f g)) := by
  induction l with
  | nil => exact .nil
  | cons a l ih => exact .cons (.int _) ih
theorem foldl_snoc_max {α β : Type} (f : β → α → β) (b : β) (l : List α) (a : α) : (l ++ [a]).foldl f b = f (l.foldl f b) a := by rw [List.foldl_append]; rfl
end

section
variable [Tbs] {P : Program} {w : World} {K : PySem.W.Frag} {mg : Str → Option Value} {base : Heap}

def untD (us : List Nat) : D := .lst (us.map natD)
def untAt (us : List Nat) (k : Nat) : Nat := us.getD k 0
theorem unt_at {us : List Nat} {k : Nat} (h : k < us.length) : us[k]? = some (untAt us k) := by
  unfold untAt
  rw [List.getD_eq_getElem?_getD, List.getElem?_eq_getElem h]
  rfl
def solOf (c : Con) (ts : List Try) (tb : Nat → Nat → Option Bool) (us : List Nat) (team k : Nat) : Option (Nat × Nat) := solvedFrom c ts tb 0 (numsOf ts team k (untAt us k))
def addSol (a : Nat × Nat × Nat) : Option (Nat × Nat) → Nat × Nat × Nat
  | none => a
  | some x => (a.1 + 1, a.2.1 + x.1, max a.2.2 x.2)
def firstU (c : Con) (ts : List Try) (tb : Nat → Nat → Option Bool) (us : List Nat) (team i : Nat) : Nat × Nat × Nat := (List.range i).foldl (fun a k => addSol a (solOf c ts tb us team k)) (0, 0, 0)
def ptsU (c : Con) (ts : List Try) (tb : Nat → Nat → Option Bool) (us : List Nat) (team i : Nat) : Nat := (List.range i).foldl (fun a k => a + pointsAt c ts tb k (numsOf ts team k (untAt us k))) 0
def scoreL (c : Con) (ts : List Try) (tb : Nat → Nat → Option Bool) (us : List Nat) (team : Nat) : List Int :=
  if c.rule = sFirst then [((firstU c ts tb us team c.tasks.length).1 : Int), ((firstU c ts tb us team c.tasks.length).2.1 : Int), ((firstU c ts tb us team c.tasks.length).2.2 : Int)] else [(ptsU c ts tb us team c.tasks.length : Int)]
def R_score_of (ds : List D) (r : D) : Prop := ∃ (c : Con) (ts : List Try) (kvs : List (List Key × V)) (tb : Nat → Nat → Option Bool) (team : Nat) (us : List Nat), ds = [c.d, trsD ts, .tab kvs, .int team, untD us] ∧ c.Ok ∧ TriesOk c ts ∧ TabOk kvs tb ∧ us.length = c.tasks.length ∧ r = scD (scoreL c ts tb us team)
abbrev sp_score_of (K : PySem.W.Frag) : Sp := spP K R_score_of
def accA (c : Con) (ts : List Try) (tb : Nat → Nat → Option Bool) (us : List Nat) (team i : Nat) : Nat × Nat × Nat := if c.rule = sFirst then firstU c ts tb us team i else (0, 0, 0)
def accB (c : Con) (ts : List Try) (tb : Nat → Nat → Option Bool) (us : List Nat) (team i : Nat) : Nat := if c.rule = sFirst then 0 else ptsU c ts tb us team i
theorem range_foldl {β : Type} (f : β → Nat → β) (b : β) (i : Nat) : (List.range (i + 1)).foldl f b = f ((List.range i).foldl f b) i := by
  rw [List.range_succ, List.foldl_append]
  rfl
theorem b_notNs {te : TE} {σ : L2.St} {G : Hp} {o : Option (Nat × Nat)} (h : EvD K te σ G (solD o)) : EvB (tTest (tOp (fun x y H Q => y = .non ∧ Q (.bl (!decide (x = .non))) H) te (tC .non))) σ G o.isSome := b_test (e_notN h (by cases o <;> rfl))
theorem numsOf_len {ts : List Try} {a b c : Nat} : (numsOf ts a b c).length ≤ ts.length := by
  have := List.length_filter_le (fun k => isOf a b c (tryAt ts k)) (List.range ts.length)
  rw [List.length_range] at this
  exact this
theorem numsOf_task {ts : List Try} {a b c k : Nat} (h : k ∈ numsOf ts a b c) : (tryAt ts k).2.1 = b := by
  have h1 := (List.mem_filter.mp h).2
  unfold isOf at h1
  rw [Bool.and_eq_true] at h1
  exact (of_decide_eq_true h1.1).2
theorem numsOf_lt' {ts : List Try} {a b c k : Nat} (h : k ∈ numsOf ts a b c) : k < ts.length := List.mem_range.mp (List.mem_filter.mp h).1
end

section
variable [Tbs] {P : Program} {w : World} {K : PySem.W.Frag} {mg : Str → Option Value} {base : Heap}

def wholeU (c : Con) : List Nat := List.replicate c.tasks.length c.fin
def R_whole_untils (ds : List D) (r : List D) : Prop := ∃ c : Con, ds = [c.d] ∧ c.Ok ∧ r = (wholeU c).map natD
abbrev sp_whole_untils (K : PySem.W.Frag) : Sp := spF K R_whole_untils
end

section
variable [Tbs] {P : Program} {w : World} {K : PySem.W.Frag} {mg : Str → Option Value} {base : Heap}

def scoresL (c : Con) (ts : List Try) (tb : Nat → Nat → Option Bool) (us : List Nat) : List (List Int) := (List.range c.teams).map (scoreL c ts tb us)
def standL (c : Con) (ts : List Try) (tb : Nat → Nat → Option Bool) : List Row := placedL (scoresL c ts tb (wholeU c))
theorem scoreL_ok (c : Con) (ts : List Try) (tb : Nat → Nat → Option Bool) (us : List Nat) (t : Nat) : ScOk (scoreL c ts tb us t) := by
  unfold scoreL ScOk
  split
  · exact ⟨(fun z => nomatch z), by show 3 ≤ 10; decide⟩
  · exact ⟨(fun z => nomatch z), by show 1 ≤ 10; decide⟩
theorem scoresL_len {c : Con} {ts : List Try} {tb : Nat → Nat → Option Bool} {us : List Nat} : (scoresL c ts tb us).length = c.teams := by unfold scoresL; rw [List.length_map, List.length_range]
theorem scoresL_ok {c : Con} {ts : List Try} {tb : Nat → Nat → Option Bool} {us : List Nat} : ∀ s ∈ scoresL c ts tb us, ScOk s := fun s hs => by
  obtain ⟨t, _, rfl⟩ := List.mem_map.mp hs
  exact scoreL_ok _ _ _ _ _
def R_all_placed (ds : List D) (r : List D) : Prop := ∃ (c : Con) (ts : List Try) (kvs : List (List Key × V)) (tb : Nat → Nat → Option Bool), ds = [c.d, trsD ts, .tab kvs] ∧ c.Ok ∧ TriesOk c ts ∧ TabOk kvs tb ∧ r = (standL c ts tb).map rowD
abbrev sp_all_placed (K : PySem.W.Frag) : Sp := spFm K R_all_placed
end

section
variable [Tbs] {P : Program} {w : World} {K : PySem.W.Frag} {mg : Str → Option Value} {base : Heap}
/-! ### drawn verdicts can be -/
theorem Fit.up : ∀ {n : Nat} {d : D}, Fit n d → Fit (n + 1) d
  | _, _, .non => .non
  | _, _, .bl b => .bl b
  | _, _, .int b => .int b
  | _, _, .str b => .str b
  | _, _, .tup hl h => .tup hl fun d hd => (h d hd).up
  | _, _, .lst hl h => .lst hl fun d hd => (h d hd).up
theorem rise_trials (c : Con) (ts : List Try) : ∀ i : Nat, Rise (trialsUpTo c ts i)
  | 0 => .nil
  | i + 1 => by
    rw [trialsUpTo_succ]
    refine List.pairwise_append.mpr ⟨rise_trials c ts i, List.pairwise_map.mpr (List.pairwise_lt_range.imp fun {a b} h => .inr ⟨rfl, h⟩), fun a ha b hb => ?_⟩
    obtain ⟨t, _, rfl⟩ := List.mem_map.mp hb
    exact .inl (mem_trialsUpTo.mp ha).1
theorem vers_some {c : Con} {ts : List Try} {vs sub ws : List Ver} (oc : c.Ok) (ot : TriesOk c ts) (hv : vpos vs = allTr c ts) (hs : sub.Sublist vs) (hp : ws.Perm sub) : VersOk c ts ws ∧ ws.length ≤ 4000 := by
  refine ⟨⟨fun v hw => ?_, ?_⟩, ?_⟩
  · have h1 : v ∈ vs := hs.subset (hp.mem_iff.mp hw)
    have h2 : (v.1, v.2.1) ∈ allTr c ts := by rw [← hv]; exact List.mem_map.mpr ⟨v, h1, rfl⟩
    exact mem_trialsUpTo.mp h2
  · have h1 : (sub.map fun v : Ver => (v.1, v.2.1)).Nodup := (hs.map _).nodup (by
      have h2 := (rise_trials c ts ts.length).nodup
      show (vpos vs).Nodup
      rw [hv]
      exact h2)
    exact (hp.map _).nodup_iff.mpr h1
  · have h1 := hp.length_eq
    have h2 := hs.length_le
    have h3 := congrArg List.length hv
    have h4 : (allTr c ts).length ≤ 20 * ts.length := trialsUpTo_len oc ot (Nat.le_refl _)
    have h5 := ot.len
    unfold vpos at h3
    rw [List.length_map] at h3
    omega
theorem vkD_inj {a b : List Ver} (h : vkD a = vkD b) : a = b := by
  refine map_inj' (fun a b h => ?_) h
  injection h with h1 h2
  have h3 := verK_inj h1
  injection h2 with h2
  obtain ⟨a1, a2, a3⟩ := a
  obtain ⟨b1, b2, b3⟩ := b
  injection h3 with h3 h4
  have h3 : a1 = b1 := h3
  have h4 : a2 = b2 := h4
  have h2 : a3 = b3 := h2
  subst h2 h3 h4
  rfl
/-- what _law_some tells of these truths -/
theorem some_of {vs : List Ver} {m : Nat} {es : List D} (h : R_some [.tab (vkD vs), .int m] es) : ∃ sub ws : List Ver, es = ws.map vrD ∧ sub.Sublist vs ∧ ws.Perm sub := by
  obtain ⟨vs', m', sub, ws, e1, e2, e3, e4⟩ := h
  injection e1 with e1 _
  injection e1 with e1
  have e1 := vkD_inj e1
  subst e1
  exact ⟨sub, ws, e2, e3, e4⟩
theorem tries_of {c : Con} {m : Nat} {es : List D} (h : R_tries [c.d, .int m] es) : ∃ ts : List Try, es = ts.map trD ∧ TriesOk c ts ∧ ts.length ≤ m := by
  obtain ⟨c', m', ts, e1, e2, e3, e4⟩ := h
  obtain ⟨rfl, f1⟩ := Con.args_inj e1
  have g1 : m = m' := by injection f1 with f1; exact dint_inj f1
  subst g1
  exact ⟨ts, e2, e3, e4⟩
theorem truth_of {c : Con} {ts : List Try} {d : D} (h : R_truth [c.d, trsD ts] d) : ∃ vs : List Ver, d = .tab (vkD vs) ∧ vpos vs = allTr c ts := by
  obtain ⟨c', ts', vs, e1, e2, e3⟩ := h
  obtain ⟨rfl, f1⟩ := Con.args_inj e1
  have g1 : ts = ts' := by injection f1 with f1; exact trsD_inj f1
  subst g1
  exact ⟨vs, e2, e3⟩

end

section
variable [Tbs] {P : Program} {w : World} {K : PySem.W.Frag} {mg : Str → Option Value} {base : Heap}
def sp_law (K : PySem.W.Frag) : Sp := fun vs H Q _ => ∃ (a : Addr) (ns : List Int), vs = [.ref a] ∧ SqL K H a (ns.map V.int) ∧ ns.length ≤ 63 ∧ ∀ H', Q (.bl true) H'

end

section
variable [Tbs] {P : Program} {w : World} {K : PySem.W.Frag} {mg : Str → Option Value} {base : Heap}
/-! ### calls with drawn arguments, tests that draw -/
section
variable {σ : L2.St} {p : Addr} {G G0 H0 G1 H : Hp} {te : TE} {t tu : TT} {as : TA} {d : D} {es : List D} {Rs : List D → Prop}
theorem rm_call {R : List D → List D → Prop} {E : XK} (m : Mks G) (h : EvRs K p as σ G fun ds => R ds es) : EvR K p (tCall (spFm K R) [] E as) σ G (fun d => d = .lst es) := fun H e g dc Q q =>
  h H e g dc _ fun vs ds G1 H1 s1 g1 d1 r1 rp1 => ⟨G1, ds, es, s1.i, m.ex s1.g, by rw [List.append_nil]; exact rp1, r1, fun l xs G2 H2 s2 h1 h2 h3 r2 => by
    have n := d1.ne h1
    have S1 : Sd p G H G1 H1 := ⟨s1, g1, d1⟩
    have S := (S1.then s2).freeze n (S1.pre h1 n) h2 h3
    exact q _ _ _ H2 S.s S.g S.d rfl (.lst upd_same (r2.ex (Ex.new h2)))⟩
theorem rf_callP {R : List D → List D → Prop} {E : XK} (h : EvRs K p as σ G fun ds => R ds es) : EvR K p (tCall (spF K R) [] E as) σ G (fun d => d = .lst es) := fun H e g dc Q q =>
  h H e g dc _ fun vs ds G1 H1 s1 g1 d1 r1 rp1 => ⟨G1, ds, es, s1.i, by rw [List.append_nil]; exact rp1, r1, fun l xs G2 H2 s2 h1 h2 h3 r2 => by
    have n := d1.ne h1
    have S1 : Sd p G H G1 H1 := ⟨s1, g1, d1⟩
    have S := (S1.then s2).freeze n (S1.pre h1 n) h2 h3
    exact q _ _ _ H2 S.s S.g S.d rfl (.lst upd_same (r2.ex (Ex.new h2)))⟩
theorem r_callP {R : List D → D → Prop} {E : XK} (h : EvRs K p as σ G fun ds => R ds d) : EvR K p (tCall (spP K R) [] E as) σ G (fun x => x = d) := fun H e g dc Q q =>
  h H e g dc _ fun vs ds G1 H1 s1 g1 d1 r1 rp1 => ⟨G1, ds, d, s1.i, by rw [List.append_nil]; exact rp1, r1, fun v G2 H2 s2 r2 => by
    have S1 : Sd p G H G1 H1 := ⟨s1, g1, d1⟩
    have S := S1.then s2
    exact q v d G2 H2 S.s S.g S.d rfl r2⟩
/-- a test that draws, its answer known -/
def EvK (p : Addr) (tt : TT) (σ : L2.St) (G : Hp) (b : Bool) : Prop := ∀ H, Ex G H → G p = none → Dice p H → ∀ Q : Bool → Hp → Prop, (∀ G' H', Sd p G H G' H' → Q b H') → tt σ H Q
theorem k_B {b : Bool} (h : EvR K p te σ G fun d => d = .bl b) : EvK p (tB te) σ G b := fun H e g dc Q q => h H e g dc _ fun v d G1 H1 s1 g1 d1 r rp => ⟨b, by subst r; exact rp.bl_of, q G1 H1 ⟨s1, g1, d1⟩⟩
theorem k_test {b : Bool} (h : EvR K p te σ G fun d => d = .bl b) : EvK p (tTest te) σ G b := fun H e g dc Q q => h H e g dc _ fun v d G1 H1 s1 g1 d1 r rp => ⟨b, by subst r; exact rp.bl_of, q G1 H1 ⟨s1, g1, d1⟩⟩
theorem k_not {b : Bool} (h : EvK p t σ G b) : EvK p (tNot t) σ G (!b) := fun H e g dc Q q => h H e g dc _ fun G1 H1 s1 => q G1 H1 s1
theorem k_of {b : Bool} (h : EvB t σ G b) : EvK p t σ G b := fun H e g dc Q q => h H e _ fun G1 H1 s => q G1 H1 ((Sd.refl e g dc).then s)
variable {Dn : Ends} {tv tz : TS}
theorem sk_no (S : Sd p G0 H0 G H) (h : EvK p t σ G false) (k : ∀ G1 H1, Sd p G H G1 H1 → Sd p G0 H0 G1 H1 → Dn.nx σ H1) : tIfS t tv tNext Dn σ H :=
  h H S.ii S.g S.d _ fun G1 H1 s => k G1 H1 s (S.trans s)
theorem qk_no (S : Sd p G0 H0 G H) (h : EvK p t σ G false) (k : ∀ G1 H1, Sd p G H G1 H1 → Sd p G0 H0 G1 H1 → tz Dn σ H1) : tSeq (tIfS t tv tNext) tz Dn σ H := sk_no (Dn := { Dn with nx := tz Dn }) S h k
/-- the first n of a drawn new list -/
theorem rf_cut {n : Nat} (h : EvRF K p te σ G Rs) : EvRF K p (tSl (rSlA K) te tNoPart (tPart (tC (.int n)))) σ G (fun es => ∃ ds, Rs ds ∧ es = ds.take n) := fun H e g dc Q q =>
  h H e g dc _ fun l xs ds G1 H1 s1 h1 h2 h3 r rp => by
    have nl := dc.ne h1
    have S := s1.freeze nl h1 h2 h3
    refine ⟨(n : Int), rfl, .inl ⟨l, xs, rfl, .of h3, fun l2 hl2 => ?_⟩⟩
    have hc : cutV xs none (some (n : Int)) = xs.take n := by
      unfold cutV
      rw [HT.sIx_none, HT.sIx_nat, List.drop_zero, Nat.sub_zero]
      by_cases hl : n ≤ xs.length
      · rw [Nat.min_eq_left hl]
      · rw [Nat.min_eq_right (by omega), List.take_of_length_le (Nat.le_refl _), List.take_of_length_le (by omega)]
    rw [hc]
    have S2 := S.own (o := .lst (xs.take n)) hl2
    have gl2 : (upd G1 l (.lst xs)) l2 = none := fresh_back S.ii hl2
    exact q l2 (xs.take n) (ds.take n) _ _ S2 (S.pre hl2 (S.d.ne hl2)) gl2 upd_same ⟨ds, r, rfl⟩ ((rp.ex (Ex.new h2)).take n)
/-- p.reverse() -/
theorem s_rev {i : Nat} {l : Addr} {xs : List V} (hx : H l = some (.lst xs)) (hi : σ[i]? = some (some (.ref l))) (k : Dn.nx σ (upd H l (.lst xs.reverse))) : tDrop (tBM0 K "list" rReverse (tVar i)) Dn σ H :=
  ⟨_, hi, Or.inl ⟨rfl, xs, .of hx⟩, l, xs, rfl, rfl, hx, k⟩
theorem q_rev {i : Nat} {l : Addr} {xs : List V} (hx : H l = some (.lst xs)) (hi : σ[i]? = some (some (.ref l))) (k : tz Dn σ (upd H l (.lst xs.reverse))) : tSeq (tDrop (tBM0 K "list" rReverse (tVar i))) tz Dn σ H := s_rev (Dn := { Dn with nx := tz Dn }) hx hi k
theorem q_clear {i : Nat} {l : Addr} {xs : List V} (hx : H l = some (.lst xs)) (hi : σ[i]? = some (some (.ref l))) (k : tz Dn σ (upd H l (.lst []))) : tSeq (tDrop (tBM0 K "list" rClear (tVar i))) tz Dn σ H :=
  ⟨_, hi, Or.inl ⟨rfl, xs, .of hx⟩, l, xs, rfl, rfl, hx, k⟩
end
/-! ### standings -/
theorem tbOf_some {vs : List Ver} (h : (vs.map fun v => (v.1, v.2.1)).Nodup) {n t : Nat} {b : Bool} : tbOf vs n t = some b ↔ (n, t, b) ∈ vs := by
  unfold tbOf
  induction vs with
  | nil => exact ⟨(fun z => nomatch z), (fun z => nomatch z)⟩
  | cons v vs ih =>
    rw [List.map_cons] at h
    obtain ⟨h1, h2⟩ := List.nodup_cons.mp h
    rw [List.find?_cons]
    by_cases hv : v.1 = n ∧ v.2.1 = t
    · rw [decide_eq_true hv]
      obtain ⟨a1, a2, a3⟩ := v
      obtain ⟨e1, e2⟩ := hv
      have e1 : a1 = n := e1
      have e2 : a2 = t := e2
      subst e1 e2
      constructor
      · intro z
        have z : a3 = b := Option.some.inj z
        subst z
        exact List.mem_cons_self
      · intro z
        rcases List.mem_cons.mp z with z | z
        · injection z with _ z
          injection z with _ z
          rw [z]
          rfl
        · exact absurd (List.mem_map.mpr ⟨_, z, rfl⟩) h1
    · rw [decide_eq_false hv, ih h2]
      constructor
      · exact fun z => List.mem_cons_of_mem _ z
      · intro z
        rcases List.mem_cons.mp z with z | z
        · exact absurd (by rw [← z]; exact ⟨rfl, rfl⟩) hv
        · exact z
theorem tbOf_perm {vs ws : List Ver} (h : (vs.map fun v => (v.1, v.2.1)).Nodup) (p : ws.Perm vs) : tbOf ws = tbOf vs := by
  funext n t
  apply Option.ext
  intro b
  rw [tbOf_some ((p.map _).nodup_iff.mpr h), tbOf_some h]
  exact p.mem_iff
theorem VersOk.perm {c : Con} {ts : List Try} {vs ws : List Ver} (o : VersOk c ts vs) (p : ws.Perm vs) : VersOk c ts ws := ⟨fun v hv => o.ok v (p.mem_iff.mp hv), (p.map _).nodup_iff.mpr o.once⟩
theorem VersOk.sub {c : Con} {ts : List Try} {vs ws : List Ver} (o : VersOk c ts vs) (p : ws.Sublist vs) : VersOk c ts ws := ⟨fun v hv => o.ok v (p.subset hv), (p.map _).nodup o.once⟩
theorem fit_scD {n : Nat} {s : List Int} (h : ScOk s) : Fit (n + 2) (scD s) := .tup (by rw [List.length_map]; have := h.2; omega) fun d hd => by
  obtain ⟨x, _, rfl⟩ := List.mem_map.mp hd
  exact .int _
theorem placedL_mem {ss : List (List Int)} {r : Row} (h : r ∈ placedL ss) : r.2.2 ∈ ss := by
  obtain ⟨t, ht, rfl⟩ := List.mem_map.mp (List.mem_mergeSort.mp h)
  exact List.mem_of_getElem? (sc_at (List.mem_range.mp ht))
theorem placedL_len {ss : List (List Int)} : (placedL ss).length = ss.length := by
  unfold placedL rowsOf
  rw [List.length_mergeSort, List.length_map, List.length_range]
theorem fit_rows {ss : List (List Int)} (h : ∀ s ∈ ss, ScOk s) (hl : ss.length ≤ 1000) : Fit 8 (.lst ((placedL ss).map rowD)) := .lst (by rw [List.length_map, placedL_len]; omega) fun d hd => by
  obtain ⟨r, hr, rfl⟩ := List.mem_map.mp hd
  refine .tup (by show 3 ≤ 1000000; decide) fun d hd => ?_
  rcases List.mem_cons.mp hd with rfl | hd
  · exact .int _
  rcases List.mem_cons.mp hd with rfl | hd
  · exact .int _
  rcases List.mem_cons.mp hd with rfl | hd
  · exact fit_scD (h _ (placedL_mem hr))
  · cases hd
theorem fit_stand {c : Con} {ts : List Try} {tb : Nat → Nat → Option Bool} (oc : c.Ok) : Fit 8 (.lst ((standL c ts tb).map rowD)) := fit_rows scoresL_ok (by rw [scoresL_len]; have := oc.teams; omega)
theorem stand_len {c : Con} {ts : List Try} {tb : Nat → Nat → Option Bool} : (standL c ts tb).length = c.teams := by
  unfold standL
  rw [placedL_len, scoresL_len]
theorem low_tr (t : Try) : (trD t).low = true := rfl
theorem low_vr (v : Ver) : (vrD v).low = true := rfl
theorem low_list {ds : List D} (h : ∀ d ∈ ds, d.plain = true ∧ d.py.canLay0 = true ∧ d.py.depth ≤ 31) : (D.lst ds).low = true := by
  have key : D.plainA ds = true ∧ PyData.canLayAll0 (D.pyA ds) = true ∧ PyData.depthAll (D.pyA ds) ≤ 31 := by
    induction ds with
    | nil => exact ⟨rfl, rfl, Nat.zero_le _⟩
    | cons d ds ih =>
      obtain ⟨p1, p2, p3⟩ := h d List.mem_cons_self
      obtain ⟨a, b, c⟩ := ih fun x hx => h x (List.mem_cons_of_mem _ hx)
      refine ⟨?_, ?_, ?_⟩
      · show (d.plain && D.plainA ds) = true
        rw [p1, a]; rfl
      · simp [D.pyA, PyData.canLayAll0, p2, b]
      · simp only [D.pyA, PyData.depthAll]
        omega
  obtain ⟨a, b, c⟩ := key
  unfold D.low
  rw [Bool.and_eq_true, Bool.and_eq_true, decide_eq_true_eq]
  refine ⟨⟨a, ?_⟩, ?_⟩
  · simp [D.py, PyData.canLay0, b]
  · simp only [D.py, PyData.depth]
    omega
theorem low_trs (ts : List Try) : (trsD ts).low = true := low_list fun d hd => by
  obtain ⟨t, _, rfl⟩ := List.mem_map.mp hd
  exact ⟨rfl, rfl, by simp [trD, vrD, D.py, D.pyA, PyData.depth, PyData.depthAll]⟩
theorem low_vrs (ts : List Ver) : (vrsD ts).low = true := low_list fun d hd => by
  obtain ⟨t, _, rfl⟩ := List.mem_map.mp hd
  exact ⟨rfl, rfl, by simp [trD, vrD, D.py, D.pyA, PyData.depth, PyData.depthAll]⟩
theorem ok_two (ts : List Try) (vs : List Ver) : (D.lst [trsD ts, vrsD vs]).ok = true := ok_lows fun d hd => by
  rcases List.mem_cons.mp hd with rfl | hd
  · exact low_trs ts
  rcases List.mem_cons.mp hd with rfl | hd
  · exact low_vrs vs
  · cases hd
theorem eqv_ok {d : D} (h : d.ok = true) : PyData.eqv d.py d.py = true := by
  unfold D.ok SeqAt.shaped at h
  rw [Bool.and_eq_true, Bool.and_eq_true] at h
  exact SeqAt.eqv_refl _ h.2.1

end

section
variable [Tbs] {P : Program} {w : World} {K : PySem.W.Frag} {mg : Str → Option Value} {base : Heap}
/-! ### texts of numbers, words, rows -/
def blkC0 (N : List Str) (scope : Scope) (own : List (Str × Nat)) : Bool :=
  (match scope.kind with | .function => true | _ => false) && (scope.names.all fun y => decide (scope.names.lookup y.1 = some y.2)) && (own.all fun p => decide (N[p.2]? = some p.1)) &&
    (scope.names.all fun y => match y.2 with
      | .free => false
      | .local => decide (y.1 ∈ own.map (·.1)) || decide (y.1 ∉ N)
      | .cell => decide (y.1 ∈ own.map (·.1)) || decide (y.1 ∉ N)
      | _ => true)
theorem blkOk_in {N : List Str} {sc scope : Scope} {own : List (Str × Nat)} (h : blkC0 N scope own = true) : BlkOk N sc scope own := by
  unfold blkC0 at h
  simp only [Bool.and_eq_true, List.all_eq_true, decide_eq_true_eq] at h
  obtain ⟨⟨⟨h1, h2⟩, h3⟩, h4⟩ := h
  refine ⟨?_, h2, h3, fun y hy e => ?_, fun y hy e => ?_⟩
  · split at h1
    · assumption
    · cases h1
  · have := h4 y hy
    rw [e] at this
    cases this
  · have := h4 y hy
    rcases e with e | e <;> rw [e] at this <;> simpa using this
open TL
def numS (n : Nat) : Str := PySem.Str.ofString (toString ((n : Nat) : Int))
theorem tl_numS (n : Nat) : tl (numS n) = numL n := tl_num n
theorem numS_len {n : Nat} (h : n ≤ 999) : (numS n).length ≤ 3 := by
  rw [len_tl, tl_numS]
  exact numL_len (by decide) (by omega)
theorem numS_pos (n : Nat) : 1 ≤ (numS n).length := by
  rw [len_tl, tl_numS]
  exact List.length_pos_iff.mpr (numL_ne n)
theorem numS_inj {m n : Nat} (h : numS m = numS n) : m = n := by
  have := congrArg tl h
  rw [tl_numS, tl_numS] at this
  exact numL_inj this
theorem numS_log {n : Nat} (h : n ≤ 999) : ((n : Nat) : Int).natAbs.log2 < 1920 := by
  rw [Int.natAbs_natCast]
  by_cases h0 : n = 0
  · subst h0; decide
  · exact (Nat.log2_lt h0).mpr (Nat.lt_of_le_of_lt h (by decide))
theorem numS_int {n : Nat} (h : n ≤ 999) : PySem.intText? (numS n) = some (n : Int) := int_num (by
  have := numL_len (n := n) (k := 3) (by decide) (by omega)
  omega)
abbrev tSp : Str := PySem.Str.ofString " "
abbrev tNl : Str := PySem.Str.ofString "\n"
abbrev tCo : Str := PySem.Str.ofString ":"
abbrev tPl : Str := PySem.Str.ofString "+"
abbrev tMi : Str := PySem.Str.ofString "-"
abbrev wCon : Str := PySem.Str.ofString "contest"
abbrev wTas : Str := PySem.Str.ofString "task"
abbrev wTry : Str := PySem.Str.ofString "try"
abbrev wVer : Str := PySem.Str.ofString "verdict"
def grT (g : Nat × Nat) : Str := numS g.1 ++ tCo ++ numS g.2
theorem grT_join (g : Nat × Nat) : grT g = Str.join tCo [numS g.1, numS g.2] := rfl
def conW (c : Con) : List Str := [wCon, c.rule, numS c.teams, numS c.fin, numS c.frozen]
def tkW (t : List (Nat × Nat) × Nat) : List Str := wTas :: numS t.2 :: t.1.map grT
def trW (t : Try) : List Str := [wTry, numS t.1, numS t.2.1, numS t.2.2]
def sgn (b : Bool) : Str := if b = true then tPl else tMi
def vrW (v : Ver) : List Str := [wVer, numS v.1, numS v.2.1, sgn v.2.2]
def rowT (ws : List Str) : Str := Str.join tSp ws
def rowsW (c : Con) (ts : List Try) (vs : List Ver) : List (List Str) := (conW c :: c.tasks.map tkW) ++ (ts.map trW ++ vs.map vrW)
def textT (c : Con) (ts : List Try) (vs : List Ver) : Str := Str.join tNl ((rowsW c ts vs).map rowT)
theorem app_len (x y : Str) : (x ++ y).length = x.length + y.length := by
  rw [len_tl, tl_append, List.length_append, ← len_tl, ← len_tl]
theorem join_len {y : Str} {B : Nat} : ∀ {ws : List Str}, (∀ w ∈ ws, w.length ≤ B) → (Str.join y ws).length ≤ ws.length * (B + y.length)
  | [], _ => Nat.zero_le _
  | [w], h => by
    have := h w List.mem_cons_self
    show w.length ≤ 1 * (B + y.length)
    omega
  | w :: z :: r, h => by
    have ih := join_len (y := y) (B := B) (ws := z :: r) fun x hx => h x (List.mem_cons_of_mem _ hx)
    have h0 := h w List.mem_cons_self
    show (w ++ y ++ Str.join y (z :: r)).length ≤ ((z :: r).length + 1) * (B + y.length)
    rw [app_len, app_len, Nat.succ_mul]
    omega
theorem sum_len {B : Nat} : ∀ {ws : List Str}, (∀ w ∈ ws, w.length ≤ B) → (ws.map (·.length)).sum ≤ ws.length * B
  | [], _ => Nat.zero_le _
  | w :: r, h => by
    have ih := sum_len (B := B) (ws := r) fun x hx => h x (List.mem_cons_of_mem _ hx)
    have h0 := h w List.mem_cons_self
    rw [List.map_cons, List.sum_cons, List.length_cons, Nat.succ_mul]
    omega
/-- words without blanks and ends of rows -/
structure WOk (w : Str) : Prop where
  len : w.length ≤ 7
  nl : 10 ∉ tl w
  sp : 32 ∉ tl w
theorem numS_ok {n : Nat} (h : n ≤ 999) : WOk (numS n) := ⟨by have := numS_len h; omega, by rw [tl_numS]; exact numL_free (by decide), by rw [tl_numS]; exact numL_free (by decide)⟩
theorem lit_ok {w : Str} (h : (decide (w.length ≤ 7) && !(tl w).contains 10 && !(tl w).contains 32) = true) : WOk w := by
  rw [Bool.and_eq_true, Bool.and_eq_true, decide_eq_true_eq] at h
  obtain ⟨⟨h1, h2⟩, h3⟩ := h
  exact ⟨h1, by simpa using h2, by simpa using h3⟩
theorem grT_ok {g : Nat × Nat} (h1 : g.1 ≤ 999) (h2 : g.2 ≤ 999) : WOk (grT g) := by
  have k1 := numS_len h1
  have k2 := numS_len h2
  have e : tl (grT g) = numL g.1 ++ [58] ++ numL g.2 := by
    unfold grT
    rw [tl_append, tl_append, tl_numS, tl_numS]
    rfl
  refine ⟨?_, ?_, ?_⟩
  · unfold grT
    rw [app_len, app_len]
    show (numS g.1).length + 1 + (numS g.2).length ≤ 7
    omega
  · rw [e]
    simp only [List.mem_append, List.mem_singleton, not_or]
    exact ⟨⟨numL_free (by decide), by decide⟩, numL_free (by decide)⟩
  · rw [e]
    simp only [List.mem_append, List.mem_singleton, not_or]
    exact ⟨⟨numL_free (by decide), by decide⟩, numL_free (by decide)⟩
structure ROk (ws : List Str) : Prop where
  ne : ws ≠ []
  len : ws.length ≤ 7
  ok : ∀ w ∈ ws, WOk w
theorem free_joinL {s : Nat} {S : List Nat} (hs : s ∉ S) : ∀ {ps : List (List Nat)}, (∀ p ∈ ps, s ∉ p) → s ∉ joinL S ps
  | [], _ => fun h => nomatch h
  | [p], h => h p List.mem_cons_self
  | p :: q :: r, h => by
    have ih := free_joinL hs (ps := q :: r) fun x hx => h x (List.mem_cons_of_mem _ hx)
    show s ∉ p ++ (S ++ joinL S (q :: r))
    simp only [List.mem_append, not_or]
    exact ⟨h p List.mem_cons_self, hs, ih⟩
theorem rowT_nl {ws : List Str} (o : ROk ws) : 10 ∉ tl (rowT ws) := by
  unfold rowT
  rw [tl_join]
  refine free_joinL (by decide +kernel) fun p hp => ?_
  obtain ⟨w, hw, rfl⟩ := List.mem_map.mp hp
  exact (o.ok w hw).nl
theorem rowT_len {ws : List Str} (o : ROk ws) : (rowT ws).length ≤ 56 := by
  have h1 := join_len (y := tSp) (B := 7) (ws := ws) fun w hw => (o.ok w hw).len
  have h2 := o.len
  have h3 : ws.length * (7 + tSp.length) ≤ 7 * 8 := Nat.mul_le_mul h2 (by decide +kernel)
  exact Nat.le_trans h1 h3
theorem split_row {ws : List Str} (o : ROk ws) : Txt.split (rowT ws) tSp = ws := by
  have h := split_join (y := tSp) (s := 32) (S := []) (by decide +kernel) (by decide +kernel) o.ne fun p hp => (o.ok p hp).sp
  rw [join_eq] at h
  exact h
theorem split_text {rs : List (List Str)} (h : rs ≠ []) (o : ∀ ws ∈ rs, ROk ws) : Txt.split (Str.join tNl (rs.map rowT)) tNl = rs.map rowT := by
  have h := split_join (y := tNl) (s := 10) (S := []) (by decide +kernel) (by decide +kernel) (parts := rs.map rowT) (fun z => h (List.map_eq_nil_iff.mp z)) fun p hp => by
    obtain ⟨ws, hw, rfl⟩ := List.mem_map.mp hp
    exact rowT_nl (o ws hw)
  rw [join_eq] at h
  exact h
theorem split_gr {g : Nat × Nat} : Txt.split (grT g) tCo = [numS g.1, numS g.2] := by
  have h := split_join (y := tCo) (s := 58) (S := []) (by decide +kernel) (by decide +kernel) (parts := [numS g.1, numS g.2]) (by simp) fun p hp => by
    simp only [List.mem_cons, List.not_mem_nil, or_false] at hp
    rcases hp with rfl | rfl
    · rw [tl_numS]; exact numL_free (by decide)
    · rw [tl_numS]; exact numL_free (by decide)
  rw [join_eq] at h
  exact h
theorem conW_ok {c : Con} (o : c.Ok) : ROk (conW c) := ⟨by unfold conW; simp, by show 5 ≤ 7; decide, fun w hw => by
  have h1 := o.teams
  have h2 := o.fin
  have h3 := o.frozen
  simp only [conW, List.mem_cons, List.not_mem_nil, or_false] at hw
  rcases hw with rfl | rfl | rfl | rfl | rfl
  · exact lit_ok (by decide +kernel)
  · rcases o.rule with e | e | e <;> rw [e] <;> exact lit_ok (by decide +kernel)
  · exact numS_ok (by omega)
  · exact numS_ok (by omega)
  · exact numS_ok (by omega)⟩
theorem tkW_ok {c : Con} (o : c.Ok) {t : List (Nat × Nat) × Nat} (h : t ∈ c.tasks) : ROk (tkW t) := by
  obtain ⟨h1, h2, h3, h4⟩ := o.task t h
  have h5 := o.fin
  refine ⟨by unfold tkW; simp, by unfold tkW; rw [List.length_cons, List.length_cons, List.length_map]; omega, fun w hw => ?_⟩
  unfold tkW at hw
  rcases List.mem_cons.mp hw with rfl | hw
  · exact lit_ok (by decide +kernel)
  rcases List.mem_cons.mp hw with rfl | hw
  · exact numS_ok (by omega)
  obtain ⟨g, hg, rfl⟩ := List.mem_map.mp hw
  have := h4 g hg
  exact grT_ok (by omega) (by omega)
theorem trW_ok {c : Con} (o : c.Ok) {t : Try} (h : TrOk c t) : ROk (trW t) := ⟨by unfold trW; simp, by show 4 ≤ 7; decide, fun w hw => by
  have h1 := o.teams
  have h2 := o.many
  have k1 := h.team
  have k2 := h.task
  have k3 := h.time
  simp only [trW, List.mem_cons, List.not_mem_nil, or_false] at hw
  rcases hw with rfl | rfl | rfl | rfl
  · exact lit_ok (by decide +kernel)
  · exact numS_ok (by omega)
  · exact numS_ok (by omega)
  · exact numS_ok (by omega)⟩
theorem ver_small {c : Con} {ts : List Try} {vs : List Ver} (oc : c.Ok) (ot : TriesOk c ts) (ov : VersOk c ts vs) {v : Ver} (h : v ∈ vs) : v.1 < 200 ∧ v.2.1 < 20 := by
  obtain ⟨h1, h2⟩ := ov.ok v h
  have h3 := ot.len
  have h4 := Con.size_le20 oc (ot.at h1).task
  have h2 : v.2.1 < c.size (tryAt ts v.1).2.1 := h2
  exact ⟨by omega, by omega⟩
theorem vrW_ok {v : Ver} (h1 : v.1 ≤ 999) (h2 : v.2.1 ≤ 999) : ROk (vrW v) := ⟨by unfold vrW; simp, by show 4 ≤ 7; decide, fun w hw => by
  simp only [vrW, List.mem_cons, List.not_mem_nil, or_false] at hw
  rcases hw with rfl | rfl | rfl | rfl
  · exact lit_ok (by decide +kernel)
  · exact numS_ok h1
  · exact numS_ok h2
  · unfold sgn
    split <;> exact lit_ok (by decide +kernel)⟩
theorem rowsW_ok {c : Con} {ts : List Try} {vs : List Ver} (oc : c.Ok) (ot : TriesOk c ts) (ov : VersOk c ts vs) : ∀ ws ∈ rowsW c ts vs, ROk ws := fun ws hw => by
  unfold rowsW at hw
  rcases List.mem_append.mp hw with hw | hw
  · rcases List.mem_cons.mp hw with rfl | hw
    · exact conW_ok oc
    · obtain ⟨t, ht, rfl⟩ := List.mem_map.mp hw
      exact tkW_ok oc ht
  · rcases List.mem_append.mp hw with hw | hw
    · obtain ⟨t, ht, rfl⟩ := List.mem_map.mp hw
      exact trW_ok oc (ot.ok t ht)
    · obtain ⟨v, hv, rfl⟩ := List.mem_map.mp hw
      have := ver_small oc ot ov hv
      exact vrW_ok (by omega) (by omega)
theorem rowsW_len {c : Con} {ts : List Try} {vs : List Ver} (oc : c.Ok) (ot : TriesOk c ts) (hl : vs.length ≤ 100000) : (rowsW c ts vs).length ≤ 100300 := by
  have h1 := oc.many
  have h2 := ot.len
  unfold rowsW
  rw [List.length_append, List.length_cons, List.length_map, List.length_append, List.length_map, List.length_map]
  omega
theorem rows_le {rs : List (List Str)} (o : ∀ ws ∈ rs, ROk ws) : ∀ x ∈ rs.map rowT, x.length ≤ 56 := fun x hx => by
  obtain ⟨ws, hw, rfl⟩ := List.mem_map.mp hx
  exact rowT_len (o ws hw)
theorem textT_len {c : Con} {ts : List Try} {vs : List Ver} (oc : c.Ok) (ot : TriesOk c ts) (ov : VersOk c ts vs) (hl : vs.length ≤ 100000) : (textT c ts vs).length ≤ 5717100 := by
  have h1 := join_len (y := tNl) (B := 56) (rows_le (rowsW_ok oc ot ov))
  rw [List.length_map] at h1
  have h2 := rowsW_len (vs := vs) oc ot hl
  have h3 : (rowsW c ts vs).length * (56 + tNl.length) ≤ 100300 * 57 := Nat.mul_le_mul h2 (by decide +kernel)
  exact Nat.le_trans h1 h3
/-! the law's way -/
theorem joinL_nil : ∀ ps : List (List Nat), joinL [] (ps.map fun p => 32 :: p) = ps.flatMap fun p => 32 :: p
  | [] => rfl
  | [p] => by simp [joinL]
  | p :: q :: r => by
    show (32 :: p) ++ ([] ++ joinL [] ((q :: r).map fun p => 32 :: p)) = _
    rw [joinL_nil (q :: r), List.nil_append, List.flatMap_cons, List.flatMap_cons, List.flatMap_cons]
theorem joinL_sp : ∀ (p : List Nat) (ps : List (List Nat)), joinL [32] (p :: ps) = p ++ ps.flatMap fun p => 32 :: p
  | p, [] => by simp [joinL]
  | p, q :: r => by
    show p ++ ([32] ++ joinL [32] (q :: r)) = _
    rw [joinL_sp q r, List.flatMap_cons]
    rfl
theorem tl_sp : tl tSp = [32] := by decide +kernel
theorem law_task (t : List (Nat × Nat) × Nat) : PySem.Str.ofString "task " ++ numS t.2 ++ Str.join Str.empty (t.1.map fun g => tSp ++ numS g.1 ++ tCo ++ numS g.2) = rowT (tkW t) := by
  refine ext_tl ?_
  unfold rowT tkW
  have h0 : (t.1.map fun g => tSp ++ numS g.1 ++ tCo ++ numS g.2).map tl = (t.1.map fun g => tl (grT g)).map fun p => 32 :: p := by
    rw [List.map_map, List.map_map]
    refine List.map_congr_left fun g _ => ?_
    show tl (tSp ++ numS g.1 ++ tCo ++ numS g.2) = 32 :: tl (numS g.1 ++ tCo ++ numS g.2)
    rw [tl_append, tl_append, tl_append, tl_append, tl_append, tl_sp]
    rfl
  rw [tl_append, tl_append, tl_join, tl_join, h0, show tl Str.empty = [] from rfl, joinL_nil, tl_sp, List.map_cons, joinL_sp, List.map_cons, List.flatMap_cons, List.map_map]
  have h1 : tl (PySem.Str.ofString "task ") = tl wTas ++ [32] := by decide +kernel
  rw [h1]
  simp only [List.append_assoc, List.singleton_append, List.cons_append, List.nil_append]
  rfl
theorem law_ver (v : Ver) : PySem.Str.ofString "verdict " ++ numS v.1 ++ tSp ++ numS v.2.1 ++ (if v.2.2 = true then PySem.Str.ofString " +" else PySem.Str.ofString " -") = rowT (vrW v) := by
  refine ext_tl ?_
  unfold rowT vrW sgn
  rw [tl_append, tl_append, tl_append, tl_append, tl_join, tl_sp, List.map_cons, joinL_sp]
  have h1 : tl (PySem.Str.ofString "verdict ") = tl wVer ++ [32] := by decide +kernel
  have h2 : tl (PySem.Str.ofString " +") = 32 :: tl tPl := by decide +kernel
  have h3 : tl (PySem.Str.ofString " -") = 32 :: tl tMi := by decide +kernel
  rw [h1]
  cases v.2.2 with
  | true =>
    rw [if_pos rfl, if_pos rfl, h2]
    simp [tl_sp]
  | false =>
    rw [if_neg Bool.false_ne_true, if_neg Bool.false_ne_true, h3]
    simp [tl_sp]

end

section
variable [Tbs] {P : Program} {w : World} {K : PySem.W.Frag} {mg : Str → Option Value} {base : Heap}
/-! ### contests, tries, verdicts written; numbers read -/
open TL
theorem row_hz {ws : List Str} (o : ROk ws) : (ws.map (·.length)).sum + ws.length * tSp.length ≤ 16777216 := by
  have h1 := sum_len (B := 7) (ws := ws) fun w hw => (o.ok w hw).len
  have h2 := o.len
  have h3 : ws.length * tSp.length ≤ 7 * 1 := Nat.mul_le_mul h2 (by decide +kernel)
  omega
theorem text_hz {rs : List (List Str)} (o : ∀ ws ∈ rs, ROk ws) (hl : rs.length ≤ 100300) : ((rs.map rowT).map (·.length)).sum + (rs.map rowT).length * tNl.length ≤ 16777216 := by
  have h1 := sum_len (B := 56) (ws := rs.map rowT) (rows_le o)
  rw [List.length_map] at h1 ⊢
  have h3 : rs.length * tNl.length ≤ 100300 * 1 := Nat.mul_le_mul hl (by decide +kernel)
  omega
section
variable {σ : L2.St} {G : Hp} {te : TE} {n : Nat}
theorem e_strN (h : EvD K te σ G (.int (n : Nat))) (hl : n ≤ 999) : EvD K (tCB (fun xs H Q => ∃ i, xs = [.int i] ∧ i.natAbs.log2 < 1920 ∧ Q (.str (PySem.Str.ofString (toString i))) H) (tCons te tNil)) σ G (.str (numS n)) := e_strI h (numS_log hl)
end
theorem take_snoc17 {α : Type} {l : List α} {i : Nat} {x : α} (h : l[i]? = some x) : l.take (i + 1) = l.take i ++ [x] := by
  rw [List.take_add_one, h]
  rfl
abbrev s_contest_rows : Stmt := top 32
abbrev N_contest_rows : List Str := ["contest", "rule", "teams", "end", "frozen", "tasks", "found", "groups", "due", "many", "points"]
abbrev P_contest_rows : List Str := ["contest"]
theorem sc_contest_rows : FnScope N_contest_rows P_contest_rows (defScope s_contest_rows) := ⟨rfl, rfl, rfl, by decide +kernel, rfl, by decide +kernel, by decide +kernel⟩

def rowsC (c : Con) : List (List Str) := conW c :: c.tasks.map tkW
def R_contest_rows (ds : List D) (r : List D) : Prop := ∃ c : Con, ds = [c.d] ∧ c.Ok ∧ r = ((rowsC c).map rowT).map D.str
abbrev sp_contest_rows (K : PySem.W.Frag) : Sp := spF K R_contest_rows
theorem ok_contest_rows {f : Addr} {fd : FuncData} (F : Fun K "contest_rows" "contest_rows" s_contest_rows f fd) (T : Tx K mg) : FnOk P w K mg base CX0 1 f fd P_contest_rows (sp_contest_rows K) := by
  refine F.ok sc_contest_rows (fun vs H Q E h => ?_) (fun cdv A outer s H vs Q E hr h => ?_)
  · obtain ⟨G, ds, r, e, ra, ⟨c, rfl, oc, rfl⟩, q⟩ := h
    exact ra.len
  · obtain ⟨G, ds, r, e, ra, ⟨c, rfl, oc, rfl⟩, q⟩ := h
    obtain ⟨v0, rfl, r0⟩ := ra.one
    refine ⟨_, (pss_cons (ps_asg (pv 0) (pg_tup rfl (pgs_cons (pg_name (i := 1) sc_contest_rows.nd rfl (by first | exact Or.inl rfl | exact Or.inr rfl)) (pgs_cons (pg_name (i := 2) sc_contest_rows.nd rfl (by first | exact Or.inl rfl | exact Or.inr rfl)) (pgs_cons (pg_name (i := 3) sc_contest_rows.nd rfl (by first | exact Or.inl rfl | exact Or.inr rfl)) (pgs_cons (pg_name (i := 4) sc_contest_rows.nd rfl (by first | exact Or.inl rfl | exact Or.inr rfl)) (pgs_cons (pg_name (i := 5) sc_contest_rows.nd rfl (by first | exact Or.inl rfl | exact Or.inr rfl)) pgs_nil)))))))
    (pss_cons (ps_set (i := 6) sc_contest_rows.nd rfl (by first | exact Or.inl rfl | exact Or.inr rfl) (pe_lst (pa_cons (pe_joinK K rfl pe_str (pe_lst (pa_cons pe_str (pa_cons (pv 1) (pa_cons (pe_callTy call_str_int (by rfl) T.n_str (by decide +kernel) (pa_cons (pv 2) pa_nil)) (pa_cons (pe_callTy call_str_int (by rfl) T.n_str (by decide +kernel) (pa_cons (pv 3) pa_nil)) (pa_cons (pe_callTy call_str_int (by rfl) T.n_str (by decide +kernel) (pa_cons (pv 4) pa_nil)) pa_nil))))))) pa_nil)))
    (pss_cons (ps_for PassesOwn.never rfl (pi_seqK K rfl (pv 5)) (pg_tup rfl (pgs_cons (pg_name (i := 7) sc_contest_rows.nd rfl (by first | exact Or.inl rfl | exact Or.inr rfl)) (pgs_cons (pg_name (i := 8) sc_contest_rows.nd rfl (by first | exact Or.inl rfl | exact Or.inr rfl)) pgs_nil))) (pss_one (ps_expr (pe_bm PySem.F.plainAttrs_list PySem.F.slot_list_append PySem.F.type_list_append mt_append (pv 6) (pa_cons (pe_joinK K rfl pe_str (pe_op (op_addK K rfl) (pe_lst (pa_cons pe_str (pa_cons (pe_callTy call_str_int (by rfl) T.n_str (by decide +kernel) (pa_cons (pv 8) pa_nil)) pa_nil))) (pe_lc (own := [("many", 9), ("points", 10)]) (g := gTup K 2 (gCons (gName 9) (gCons (gName 10) gNil))) (tt := tYes) rfl sc_contest_rows.nd (pi_seqK K rfl (pv 7)) (blkOk_by (own := [("many", 9), ("points", 10)]) (N := N_contest_rows) (sc := defScope s_contest_rows) (by decide +kernel)) (fun _ _ _ _ _ => (pg_tup rfl (pgs_cons (pg_name (i := 9) sc_contest_rows.nd rfl (by first | exact Or.inl rfl | exact Or.inr rfl)) (pgs_cons (pg_name (i := 10) sc_contest_rows.nd rfl (by first | exact Or.inl rfl | exact Or.inr rfl)) pgs_nil)))) (fun _ _ _ _ _ => pts_nil) (fun _ _ _ _ _ => (pe_op (op_addK K rfl) (pe_op (op_addK K rfl) (pe_callTy call_str_int (by rfl) T.n_str (by decide +kernel) (pa_cons (pv 9) pa_nil)) pe_str) (pe_callTy call_str_int (by rfl) T.n_str (by decide +kernel) (pa_cons (pv 10) pa_nil))))))) pa_nil)))))
    (pss_one (ps_ret (pv 6)))))), ?_⟩
    try dsimp only [cxOf, Cx.nox, Cx.wish]
    have ot := oc.teams
    have of' := oc.fin
    have ofr := oc.frozen
    have om := oc.many
    refine q_asgT e (d := c.d) (js := [1, 2, 3, 4, 5]) (es := [.str c.rule, .int c.teams, .int c.fin, .int c.frozen, .tup (c.tasks.map tkD)]) (by walk_at "ev")
      (g_tup (g_cons g_name (g_cons g_name (g_cons g_name (g_cons g_name (g_cons g_name g_nil rfl) rfl) rfl) rfl) rfl) rfl) fun us G1 H1 s1 ru => ?_
    obtain ⟨a1, a2, a3, a4, a5, rfl, p1, p2, p3, p4, p5⟩ := ru.five
    show tSeq _ _ _ [some v0, some a1, some a2, some a3, some a4, some a5, none, none, none, none, none] _
    have hrow : EvD K (tM1 (rJoin K) (tC (.str tSp)) (tLst (tCons (tC (.str wCon)) (tCons (tVar 1) (tCons (tCB (fun xs H Q => ∃ i, xs = [.int i] ∧ i.natAbs.log2 < 1920 ∧ Q (.str (PySem.Str.ofString (toString i))) H) (tCons (tVar 2) tNil)) (tCons (tCB (fun xs H Q => ∃ i, xs = [.int i] ∧ i.natAbs.log2 < 1920 ∧ Q (.str (PySem.Str.ofString (toString i))) H) (tCons (tVar 3) tNil)) (tCons (tCB (fun xs H Q => ∃ i, xs = [.int i] ∧ i.natAbs.log2 < 1920 ∧ Q (.str (PySem.Str.ofString (toString i))) H) (tCons (tVar 4) tNil)) tNil))))))) [some v0, some a1, some a2, some a3, some a4, some a5, none, none, none, none, none] G1 (.str (rowT (conW c))) :=
      e_join (a := tSp) (ys := conW c) e_str (EvF.toD (f_lst (ds := [.str wCon, .str c.rule, .str (numS c.teams), .str (numS c.fin), .str (numS c.frozen)]) (a_cons e_str (a_cons (e_var rfl p1) (a_cons (e_strN (e_var rfl p2) (by omega)) (a_cons (e_strN (e_var rfl p3) (by omega)) (a_one (e_strN (e_var rfl p4) (by omega))))))) (by show 5 ≤ 100000; decide))) (row_hz (conW_ok oc))
    refine q_asgF (K := K) (ds := [.str (rowT (conW c))]) s1.i (f_lst (a_one hrow) (by show 1 ≤ 100000; decide)) fun p xs G2 H2 s2 hp gp hx rx => ?_
    have S2 := s1.trans s2
    have hp0 := s1.pre hp
    refine q_for (K := K) (n := c.tasks.length) (js := [7, 8]) (E := fun i => match c.tasks[i]? with | some t => [.tup (t.1.map gD), .int t.2] | none => []) S2 (i_seqT' (List.length_map _) (e_var rfl (p5.ex s2.g))) (fun i hi => by rw [nth_map (List.getElem?_eq_getElem hi), List.getElem?_eq_getElem hi]; exact g_two)
      (fun i σ' G' H' => G' p = none ∧ (∃ xs, H' p = some (.lst xs) ∧ RpA K G' xs (((rowsC c).take (i + 1)).map fun ws => D.str (rowT ws))) ∧ ∃ w7 w8 w9 w10, σ' = [some v0, some a1, some a2, some a3, some a4, some a5, some (.ref p), w7, w8, w9, w10])
      (fun G3 H3 s3 => ⟨(s3.keep gp hx).1, ⟨_, (s3.keep gp hx).2, rx.ex s3.g⟩, _, _, _, _, rfl⟩) ?_ ?_
    · rintro Gw ew i hi σ' G' H' S' ew' ⟨g', ⟨ys, x', ry⟩, w7, w8, w9, w10, rfl⟩ G3 H3 us s3 ru
      have hti : c.tasks[i]? = some c.tasks[i] := List.getElem?_eq_getElem hi
      have htm := List.getElem_mem hi
      generalize c.tasks[i] = t at hti htm
      have ru : RpA K G3 us (match c.tasks[i]? with | some t => [.tup (t.1.map gD), .int t.2] | none => []) := ru
      rw [hti] at ru
      obtain ⟨b1, b2, rfl, rb1, rb2⟩ := ru.two
      obtain ⟨o1, o2, o3, o4⟩ := oc.task t htm
      obtain ⟨g3, x3⟩ := s3.keep g' x'
      have S3 := S'.trans s3
      have hyl : ys.length ≤ 7 := by
        rw [ry.len, List.length_map, List.length_take]
        unfold rowsC
        rw [List.length_cons, List.length_map]
        omega
      have hri : (rowsC c)[i + 1]? = some (tkW t) := by
        show (c.tasks.map tkW)[i]? = _
        rw [List.getElem?_map, hti]
        rfl
      refine s_app (K := K) (d := .str (rowT (tkW t))) S3.i g3 x3 rfl (e_join (a := tSp) (ys := tkW t) e_str (EvD.eq (EvF.toD (f_cat (ds := [.str wTas, .str (numS t.2)]) (EvF.toD (f_lst (a_cons e_str (a_one (e_strN (e_var rfl rb2) (by omega)))) (by show 2 ≤ 100000; decide))) (EvF.toD (f_lcm (xs := t.1) (Y := nth (t.1.map gD)) (js := [9, 10]) (fun _ g => [.int g.1, .int g.2]) (fun _ => true) (fun g => .str (grT g))
        (i_seqT' (List.length_map _) (e_var rfl rb1)) (fun j x hx => by rw [nth_map hx]; exact g_two) (by omega) (fun _ _ _ => rfl) (fun us _ => wipe_set (by decide)) (fun _ _ _ _ _ _ _ => b_yes) (fun j x hx _ Gb eb us ru => ?_))) (by rw [List.length_map, List.filter_eq_self.mpr (fun _ _ => rfl)]; show 2 + t.1.length ≤ 1000000; omega))) ?_) (row_hz (tkW_ok oc htm))) (by omega) fun v G4 H4 s4 g4 rv => ?_
      · obtain ⟨z1, z2, rfl, rz1, rz2⟩ := ru.two
        have hg := o4 x (List.mem_of_getElem? hx)
        have k1 := numS_len (n := x.1) (by omega)
        have k2 := numS_len (n := x.2) (by omega)
        exact e_addSA (p := numS x.1 ++ tCo) (q := numS x.2) (e_addSA (p := numS x.1) (q := tCo) (e_strN (e_var rfl rz1) (by omega)) e_str (by show (numS x.1).length + 1 ≤ sizeLine; rw [sizeLine_eq]; omega)) (e_strN (e_var rfl rz2) (by omega)) (by rw [app_len]; show (numS x.1).length + 1 + (numS x.2).length ≤ sizeLine; rw [sizeLine_eq]; omega)
      · rw [List.filter_eq_self.mpr (fun _ _ => rfl)]
        unfold tkW
        rw [List.map_cons, List.map_cons, List.map_map]
        rfl
      refine ⟨G4, (S3.trans s4).mut hp0 g4, ew'.trans (s3.g.trans s4.g), g4, ⟨_, upd_same, ?_⟩, _, _, _, _, rfl⟩
      rw [take_snoc17 hri, List.map_append]
      exact (ry.ex (s3.g.trans s4.g)).snoc rv
    · rintro σ' G' H' S' ew ⟨g', ⟨ys, x', ry⟩, w7, w8, w9, w10, rfl⟩
      have hl : (rowsC c).length = c.tasks.length + 1 := by unfold rowsC; rw [List.length_cons, List.length_map]
      rw [← hl, List.take_length] at ry
      exact ⟨_, rfl, q p ys G' H' S' hp0 g' x' (by rw [List.map_map]; exact ry)⟩
abbrev s_written : Stmt := top 33
abbrev N_written : List Str := ["contest", "tries", "verdicts", "rows", "one", "number", "trial", "passed", "part"]
abbrev P_written : List Str := ["contest", "tries", "verdicts"]
theorem sc_written : FnScope N_written P_written (defScope s_written) := ⟨rfl, rfl, rfl, by decide +kernel, rfl, by decide +kernel, by decide +kernel⟩

def R_written (ds : List D) (r : D) : Prop := ∃ (c : Con) (ts : List Try) (vs : List Ver), ds = [c.d, trsD ts, vrsD vs] ∧ c.Ok ∧ TriesOk c ts ∧ VersOk c ts vs ∧ vs.length ≤ 4000 ∧ r = .str (textT c ts vs)
abbrev sp_written (K : PySem.W.Frag) : Sp := spP K R_written
theorem ok_written {f : Addr} {fd : FuncData} (F : Fun K "written" "written" s_written f fd) (T : Tx K mg) (d_contest_rows : Dk P w K mg base 1 "contest_rows" P_contest_rows (sp_contest_rows K)) (d_need_all : Dk P w K mg base 5 "need_all" P_need_all (sp_need_all K)) : FnOk P w K mg base CX0 6 f fd P_written (sp_written K) := by
  refine F.ok sc_written (fun vs H Q E h => ?_) (fun cdv A outer s H vs Q E hr h => ?_)
  · obtain ⟨G, ds, r, e, ra, ⟨c, ts, vs, rfl, oc, ot, ov, hlen, rfl⟩, q⟩ := h
    exact ra.len
  · obtain ⟨G, ds, r, e, ra, ⟨c, ts, vs, rfl, oc, ot, ov, hlen, rfl⟩, q⟩ := h
    obtain ⟨v0, v1, v2, rfl, r0, r1, r2⟩ := ra.three
    refine ⟨_, (pss_cons (ps_expr (pe_fn d_need_all (hr.mono (by decide)) (by rfl) (pa_cons (pv 0) (pa_cons (pv 1) (pa_cons (pv 2) pa_nil)))))
    (pss_cons (ps_set (i := 3) sc_written.nd rfl (by first | exact Or.inl rfl | exact Or.inr rfl) (pe_fn d_contest_rows (hr.mono (by decide)) (by rfl) (pa_cons (pv 0) pa_nil)))
    (pss_cons (ps_for PassesOwn.never rfl (pi_seqK K rfl (pv 1)) (pg_name (i := 4) sc_written.nd rfl (by first | exact Or.inl rfl | exact Or.inr rfl)) (pss_one (ps_expr (pe_bm PySem.F.plainAttrs_list PySem.F.slot_list_append PySem.F.type_list_append mt_append (pv 3) (pa_cons (pe_joinK K rfl pe_str (pe_op (op_addK K rfl) (pe_lst (pa_cons pe_str pa_nil)) (pe_lc (own := [("part", 8)]) (g := gName 8) (tt := tYes) rfl sc_written.nd (pi_seqK K rfl (pv 4)) (blkOk_by (own := [("part", 8)]) (N := N_written) (sc := defScope s_written) (by decide +kernel)) (fun _ _ _ _ _ => (pg_name (i := 8) sc_written.nd rfl (by first | exact Or.inl rfl | exact Or.inr rfl))) (fun _ _ _ _ _ => pts_nil) (fun _ _ _ _ _ => (pe_callTy call_str_int (by rfl) T.n_str (by decide +kernel) (pa_cons (pv 8) pa_nil)))))) pa_nil)))))
    (pss_cons (ps_for PassesOwn.never rfl (pi_seqK K rfl (pv 2)) (pg_tup rfl (pgs_cons (pg_name (i := 5) sc_written.nd rfl (by first | exact Or.inl rfl | exact Or.inr rfl)) (pgs_cons (pg_name (i := 6) sc_written.nd rfl (by first | exact Or.inl rfl | exact Or.inr rfl)) (pgs_cons (pg_name (i := 7) sc_written.nd rfl (by first | exact Or.inl rfl | exact Or.inr rfl)) pgs_nil)))) (pss_one (ps_expr (pe_bm PySem.F.plainAttrs_list PySem.F.slot_list_append PySem.F.type_list_append mt_append (pv 3) (pa_cons (pe_joinK K rfl pe_str (pe_lst (pa_cons pe_str (pa_cons (pe_callTy call_str_int (by rfl) T.n_str (by decide +kernel) (pa_cons (pv 5) pa_nil)) (pa_cons (pe_callTy call_str_int (by rfl) T.n_str (by decide +kernel) (pa_cons (pv 6) pa_nil)) (pa_cons (pe_ifExp (pt_val (pv 7)) pe_str pe_str) pa_nil)))))) pa_nil)))))
    (pss_one (ps_ret (pe_joinK K rfl pe_str (pv 3)))))))), ?_⟩
    try dsimp only [cxOf, Cx.nox, Cx.wish]
    refine q_drop e (d := .non) (e_call (a_cons (by walk_at "ev") (a_cons (by walk_at "ev") (a_one (by walk_at "ev")))) ⟨c, ts, vs, rfl, oc, ot, ov, by omega, rfl⟩) fun G1 H1 s1 => ?_
    have r0 := r0.ex s1.g
    have r1 := r1.ex s1.g
    have r2 := r2.ex s1.g
    have om := oc.many
    have ol := ot.len
    refine q_asgF (K := K) s1.i (f_call (a_one (e_var rfl r0)) ⟨c, rfl, oc, rfl⟩) fun p xs G2 H2 s2 hp gp hx rx => ?_
    have S2 := s1.trans s2
    have hp0 := s1.pre hp
    have r1 := r1.ex s2.g
    have r2 := r2.ex s2.g
    have hlc : (rowsC c).length = c.tasks.length + 1 := by unfold rowsC; rw [List.length_cons, List.length_map]
    show tSeq _ _ _ [some v0, some v1, some v2, some (.ref p), none, none, none, none, none] _
    refine q_for (K := K) (n := ts.length) (js := [4]) (E := fun i => match ts[i]? with | some t => [trD t] | none => []) S2 (i_seqL' (List.length_map _) (e_var rfl r1)) (fun i hi => by rw [nth_map (List.getElem?_eq_getElem hi), List.getElem?_eq_getElem hi]; exact g_name)
      (fun i σ' G' H' => G' p = none ∧ (∃ xs, H' p = some (.lst xs) ∧ RpA K G' xs ((rowsC c ++ (ts.take i).map trW).map fun ws => D.str (rowT ws))) ∧ ∃ w4 w5 w6 w7 w8, σ' = [some v0, some v1, some v2, some (.ref p), w4, w5, w6, w7, w8])
      (fun G3 H3 s3 => ⟨(s3.keep gp hx).1, ⟨_, (s3.keep gp hx).2, by rw [List.take_zero, List.map_nil, List.append_nil]; have := rx.ex s3.g; rw [List.map_map] at this; exact this⟩, _, _, _, _, _, rfl⟩) ?_ ?_
    · rintro Gw ew i hi σ' G' H' S' ew' ⟨g', ⟨ys, x', ry⟩, w4, w5, w6, w7, w8, rfl⟩ G3 H3 us s3 ru
      have hti : ts[i]? = some ts[i] := List.getElem?_eq_getElem hi
      have htm := List.getElem_mem hi
      generalize ts[i] = t at hti htm
      have ru : RpA K G3 us (match ts[i]? with | some t => [trD t] | none => []) := ru
      rw [hti] at ru
      obtain ⟨b1, rfl, rb1⟩ := ru.one
      have hok := ot.ok t htm
      have k1 := hok.team
      have k2 := hok.task
      have k3 := hok.time
      have k4 := oc.teams
      obtain ⟨g3, x3⟩ := s3.keep g' x'
      have S3 := S'.trans s3
      have hyl : ys.length ≤ 1000 := by
        rw [ry.len, List.length_map, List.length_append, List.length_map, List.length_take]
        omega
      refine s_app (K := K) (d := .str (rowT (trW t))) S3.i g3 x3 rfl (e_join (a := tSp) (ys := trW t) e_str (EvD.eq (EvF.toD (f_cat (ds := [.str wTry]) (EvF.toD (f_lst (a_one e_str) (by show 1 ≤ 100000; decide))) (EvF.toD (f_lcm (xs := [t.1, t.2.1, t.2.2]) (Y := nth [.int t.1, .int t.2.1, .int t.2.2]) (js := [8]) (fun _ n => [.int (n : Nat)]) (fun _ => true) (fun n => .str (numS n))
        (i_seqT' (n := 3) rfl (e_var rfl rb1)) (fun j x hx => by
          have hj : nth [D.int (t.1 : Nat), .int (t.2.1 : Nat), .int (t.2.2 : Nat)] j = .int (x : Nat) := nth_map (f := fun n : Nat => D.int (n : Nat)) (xs := [t.1, t.2.1, t.2.2]) hx
          rw [hj]
          exact g_name) (by show 3 ≤ _; decide) (fun _ _ _ => rfl) (fun us _ => wipe_set (by decide)) (fun _ _ _ _ _ _ _ => b_yes) (fun j x hx _ Gb eb us ru => ?_))) (by rw [List.length_map, List.filter_eq_self.mpr (fun _ _ => rfl)]; show 1 + 3 ≤ 1000000; decide))) ?_) (row_hz (trW_ok oc hok))) (by omega) fun v G4 H4 s4 g4 rv => ?_
      · obtain ⟨z1, rfl, rz1⟩ := ru.one
        have hx := List.mem_of_getElem? hx
        simp only [List.mem_cons, List.not_mem_nil, or_false] at hx
        exact e_strN (e_var rfl rz1) (by omega)
      · rw [List.filter_eq_self.mpr (fun _ _ => rfl)]
        rfl
      refine ⟨G4, (S3.trans s4).mut hp0 g4, ew'.trans (s3.g.trans s4.g), g4, ⟨_, upd_same, ?_⟩, _, _, _, _, _, rfl⟩
      have e1 : rowsC c ++ (ts.take (i + 1)).map trW = (rowsC c ++ (ts.take i).map trW) ++ [trW t] := by
        rw [take_snoc17 hti, List.map_append, List.append_assoc]
        rfl
      rw [e1, List.map_append]
      exact (ry.ex (s3.g.trans s4.g)).snoc rv
    · rintro σ' G3 H3 S3 ew ⟨g3, ⟨ys, x3, ry⟩, w4, w5, w6, w7, w8, rfl⟩
      rw [List.take_length] at ry
      have r2 := r2.ex ew
      refine q_for (K := K) (n := vs.length) (js := [5, 6, 7]) (E := fun i => match vs[i]? with | some v => [.int v.1, .int v.2.1, .bl v.2.2] | none => []) S3 (i_seqL' (List.length_map _) (e_var rfl r2)) (fun i hi => by rw [nth_map (List.getElem?_eq_getElem hi), List.getElem?_eq_getElem hi]; exact g_three)
        (fun i σ' G' H' => G' p = none ∧ (∃ xs, H' p = some (.lst xs) ∧ RpA K G' xs ((rowsC c ++ ts.map trW ++ (vs.take i).map vrW).map fun ws => D.str (rowT ws))) ∧ ∃ w4 w5 w6 w7 w8, σ' = [some v0, some v1, some v2, some (.ref p), w4, w5, w6, w7, w8])
        (fun G4 H4 s4 => ⟨(s4.keep g3 x3).1, ⟨_, (s4.keep g3 x3).2, by rw [List.take_zero, List.map_nil, List.append_nil]; exact ry.ex s4.g⟩, _, _, _, _, _, rfl⟩) ?_ ?_
      · rintro Gv ev i hi σ' G' H' S' ev' ⟨g', ⟨zs, x', rz⟩, w4, w5, w6, w7, w8, rfl⟩ G4 H4 us s4 ru
        have hvi : vs[i]? = some vs[i] := List.getElem?_eq_getElem hi
        have hvm := List.getElem_mem hi
        generalize vs[i] = x at hvi hvm
        have ru : RpA K G4 us (match vs[i]? with | some v => [.int v.1, .int v.2.1, .bl v.2.2] | none => []) := ru
        rw [hvi] at ru
        obtain ⟨b1, b2, b3, rfl, rb1, rb2, rb3⟩ := ru.three
        obtain ⟨k1, k2⟩ := ver_small oc ot ov hvm
        obtain ⟨g4, x4⟩ := s4.keep g' x'
        have S4 := S'.trans s4
        have hzl : zs.length < 100000 := by
          rw [rz.len, List.length_map, List.length_append, List.length_append, List.length_map, List.length_map, List.length_take]
          omega
        refine s_app (K := K) (d := .str (rowT (vrW x))) S4.i g4 x4 rfl (e_join (a := tSp) (ys := vrW x) e_str (EvF.toD (f_lst (ds := [.str wVer, .str (numS x.1), .str (numS x.2.1), .str (sgn x.2.2)]) (a_cons e_str (a_cons (e_strN (e_var rfl rb1) (by omega)) (a_cons (e_strN (e_var rfl rb2) (by omega)) (a_one (e_if (b_B (e_var rfl rb3)) (fun h => by unfold sgn; rw [if_pos h]; exact e_str) (fun h => by unfold sgn; rw [if_neg (by rw [h]; exact Bool.false_ne_true)]; exact e_str)))))) (by show 4 ≤ 100000; decide))) (row_hz (vrW_ok (by omega) (by omega)))) hzl fun v G5 H5 s5 g5 rv => ?_
        refine ⟨G5, (S4.trans s5).mut hp0 g5, ev'.trans (s4.g.trans s5.g), g5, ⟨_, upd_same, ?_⟩, _, _, _, _, _, rfl⟩
        have e1 : rowsC c ++ ts.map trW ++ (vs.take (i + 1)).map vrW = (rowsC c ++ ts.map trW ++ (vs.take i).map vrW) ++ [vrW x] := by
          rw [take_snoc17 hvi, List.map_append, List.append_assoc (rowsC c ++ ts.map trW)]
          rfl
        rw [e1, List.map_append]
        exact (rz.ex (s4.g.trans s5.g)).snoc rv
      · rintro σ' G' H' S' ew ⟨g', ⟨zs, x', rz⟩, w4, w5, w6, w7, w8, rfl⟩
        rw [List.take_length, List.append_assoc] at rz
        have rz : RpA K G' zs ((rowsW c ts vs).map fun ws => D.str (rowT ws)) := rz
        have ow := Owns.one g' x' ⟨rfl, rfl⟩
        have rz2 : RpA K G' zs (((rowsW c ts vs).map rowT).map D.str) := by rw [List.map_map]; exact rz
        exact s_retM (K := K) (d := .str (textT c ts vs)) S'.i ow (e_join (a := tNl) (ys := (rowsW c ts vs).map rowT) e_str (e_var rfl (.lst (over_some own1_same) (rz2.ex ow.gg))) (text_hz (rowsW_ok oc ot ov) (rowsW_len oc ot (by omega)))) rfl fun v G5 H5 s5 _ rv => q v G5 H5 (S'.trans s5) rv
abbrev s_number_of : Stmt := top 34
abbrev N_number_of : List Str := ["word", "sign"]
abbrev P_number_of : List Str := ["word"]
theorem sc_number_of : FnScope N_number_of P_number_of (defScope s_number_of) := ⟨rfl, rfl, rfl, by decide +kernel, rfl, by decide +kernel, by decide +kernel⟩

def R_number_of (ds : List D) (r : D) : Prop := ∃ n : Nat, ds = [.str (numS n)] ∧ n ≤ 999 ∧ r = .int n
abbrev sp_number_of (K : PySem.W.Frag) : Sp := spP K R_number_of
theorem figure {n i c : Nat} (h : (numS n).cps[i]? = some c) : (!decide (c ∈ (PySem.Str.ofString "0123456789").cps.toList)) = false := by
  have hm : c ∈ tl (numS n) := by
    have := Array.mem_of_getElem? h
    exact Array.mem_toList_iff.mpr this
  rw [tl_numS] at hm
  have hd := numL_digits n
  have h2 : 48 ≤ c ∧ c ≤ 57 := by
    constructor
    · refine Classical.byContradiction fun z => ?_
      exact numL_free (n := n) (s := c) (.inl (by omega)) hm
    · refine Classical.byContradiction fun z => ?_
      exact numL_free (n := n) (s := c) (.inr (by omega)) hm
  have key : ∀ d : Nat, d < 10 → (!decide (48 + d ∈ (PySem.Str.ofString "0123456789").cps.toList)) = false := by decide +kernel
  have := key (c - 48) (by omega)
  rw [show 48 + (c - 48) = c by omega] at this
  exact this
theorem ok_number_of {f : Addr} {fd : FuncData} (F : Fun K "number_of" "number_of" s_number_of f fd) (T : Tx K mg) : FnOk P w K mg base CX0 1 f fd P_number_of (sp_number_of K) := by
  refine F.ok sc_number_of (fun vs H Q E h => ?_) (fun cdv A outer s H vs Q E hr h => ?_)
  · obtain ⟨G, ds, r, e, ra, ⟨n, rfl, hn, rfl⟩, q⟩ := h
    exact ra.len
  · obtain ⟨G, ds, r, e, ra, ⟨n, rfl, hn, rfl⟩, q⟩ := h
    obtain ⟨v0, rfl, r0⟩ := ra.one
    obtain ⟨tF, m_FIGURES⟩ := T.c_FIGURES
    refine ⟨_, (pss_cons (ps_if (PW.pt (pw_or (pt_not (pt_chain op_le op_le pe_int (pe_callB call_len_str (by rfl) T.n_len (by decide +kernel) (pa_cons (pv 0) pa_nil)) pe_int)) (pw_or1 (pt_cmpR (op_neK K rfl hr.units) (pe_lc (own := [("sign", 1)]) (g := gName 1) (tt := _) rfl sc_number_of.nd (pi_str (pv 0)) (blkOk_by (own := [("sign", 1)]) (N := N_number_of) (sc := defScope s_number_of) (by decide +kernel)) (fun _ _ _ _ _ => (pg_name (i := 1) sc_number_of.nd rfl (by first | exact Or.inl rfl | exact Or.inr rfl))) (fun _ _ _ _ _ => (pts_one (pt_cmpR op_notIn_sign (pv 1) (pe_gS rfl T.c_FIGURES) (by rfl)))) (fun _ _ _ _ _ => (pv 1))) (pe_lst pa_nil) (nomark _))))) (pss_one (ps_ret pe_non)) pss_nil)
    (pss_one (ps_ret (pe_ifExp (pt_cmpR (op_eqK K rfl hr.units) (pe_callTy call_str_int (by rfl) T.n_str (by decide +kernel) (pa_cons (pe_callTy call_int_str (by rfl) T.n_int (by decide +kernel) (pa_cons (pv 0) pa_nil)) pa_nil)) (pv 0) (nomark _)) (pe_callTy call_int_str (by rfl) T.n_int (by decide +kernel) (pa_cons (pv 0) pa_nil)) pe_non)))), ?_⟩
    try dsimp only [cxOf, Cx.nox, Cx.wish]
    have hl := numS_len hn
    have hl1 := numS_pos n
    have hsz : (numS n).length = (numS n).cps.size := rfl
    refine q_no e (b_orF (b_notT (b_test (e_chainT (i := 1) (j := ((numS n).length : Nat)) (k := 3) e_int (e_lenS (e_var rfl r0) (by rw [sizeLine_eq]; omega)) e_int (by omega) (by omega)))) (b_test (K := K) (EvD.bl (e_neD (d1 := .lst []) (d2 := .lst []) (EvD.eq (EvF.toD (f_lc (n := (numS n).cps.size) (js := [1]) (fun i => [.str ⟨#[(numS n).cps.getD i 0]⟩]) (fun _ => false) (fun i => .str ⟨#[(numS n).cps.getD i 0]⟩) (i_str (e_var rfl r0)) (fun _ _ => g_name) (by omega) (fun _ _ => rfl) (fun us _ => wipe_set (by decide)) (fun i hi G2 e2 us ru => ?_) (fun i hi hb G2 e2 us ru => nomatch hb))) ?_) (EvF.toD (f_lst a_nil (by show 0 ≤ 100000; decide))) rfl rfl) rfl))) fun G1 H1 s1 => ?_
    · obtain ⟨y, rfl, ry⟩ := ru.one
      have hi2 : (numS n).cps[i]? = some ((numS n).cps.getD i 0) := by
        rw [Array.getD_eq_getD_getElem?, Array.getElem?_eq_getElem hi]
        rfl
      exact b_test (K := K) (EvD.bl (e_ninSg (e_var rfl ry) e_str) (figure hi2))
    · unfold pick
      rw [List.filter_eq_nil_iff.mpr fun _ _ => Bool.false_ne_true]
      rfl
    have r0 := r0.ex s1.g
    refine s_ret (K := K) (d := .int (n : Nat)) s1.i (e_if (b_test (K := K) (EvD.bl (e_eq (d1 := .str (numS n)) (d2 := .str (numS n)) (e_strN (n := n) (e_intS (e_var rfl r0) (numS_int hn) (by omega)) hn) (e_var rfl r0) rfl) (decide_eq_true rfl))) (fun _ => e_intS (e_var rfl r0) (numS_int hn) (by omega)) (fun z => nomatch z)) fun v G2 H2 s2 rv => q v G2 H2 (s1.trans s2) rv
abbrev s_numbers_of_words : Stmt := top 35
abbrev N_numbers_of_words : List Str := ["words", "many", "found", "word"]
abbrev P_numbers_of_words : List Str := ["words", "many"]
theorem sc_numbers_of_words : FnScope N_numbers_of_words P_numbers_of_words (defScope s_numbers_of_words) := ⟨rfl, rfl, rfl, by decide +kernel, rfl, by decide +kernel, by decide +kernel⟩

def R_numbers_of_words (ds : List D) (r : D) : Prop := ∃ ns : List Nat, ds = [.lst ((ns.map numS).map D.str), .int ns.length] ∧ (∀ n ∈ ns, n ≤ 999) ∧ ns.length ≤ 1000 ∧ r = .tup (ns.map fun n : Nat => .int n)
abbrev sp_numbers_of_words (K : PySem.W.Frag) : Sp := spP K R_numbers_of_words
theorem ok_ints (ns : List Nat) : (D.lst (ns.map fun n : Nat => D.int n)).ok = true := ok_lows fun d hd => by
  obtain ⟨n, _, rfl⟩ := List.mem_map.mp hd
  rfl
theorem no_none (ns : List Nat) : ((D.pyA (ns.map fun n : Nat => D.int n)).any fun z => PyData.eqv z (D.non).py) = false := by
  induction ns with
  | nil => rfl
  | cons n ns ih =>
    show (PyData.eqv (D.int (n : Nat)).py (D.non).py || _) = false
    rw [show PyData.eqv (D.int (n : Nat)).py (D.non).py = false from rfl, Bool.false_or]
    exact ih
theorem ok_numbers_of_words {f : Addr} {fd : FuncData} (F : Fun K "numbers_of_words" "numbers_of_words" s_numbers_of_words f fd) (T : Tx K mg) (d_number_of : Dk P w K mg base 1 "number_of" P_number_of (sp_number_of K)) : FnOk P w K mg base CX0 2 f fd P_numbers_of_words (sp_numbers_of_words K) := by
  refine F.ok sc_numbers_of_words (fun vs H Q E h => ?_) (fun cdv A outer s H vs Q E hr h => ?_)
  · obtain ⟨G, ds, r, e, ra, ⟨ns, rfl, hns, hl, rfl⟩, q⟩ := h
    exact ra.len
  · obtain ⟨G, ds, r, e, ra, ⟨ns, rfl, hns, hl, rfl⟩, q⟩ := h
    obtain ⟨v0, v1, rfl, r0, r1⟩ := ra.two
    refine ⟨_, (pss_cons (ps_setLc (i := 2) (own := [("word", 3)]) (g := gName 3) (tt := tYes) rfl sc_numbers_of_words.nd rfl rfl (sw_true rfl rfl rfl (by decide +kernel)) (pi_seqK K rfl (pv 0)) (blkOk_by (own := [("word", 3)]) (N := N_numbers_of_words) (sc := defScope s_numbers_of_words) (by decide +kernel)) (fun _ _ _ _ _ => (pg_name (i := 3) sc_numbers_of_words.nd rfl (by first | exact Or.inl rfl | exact Or.inr rfl))) (fun _ _ _ _ _ => pts_nil) (fun _ _ _ _ _ => (pe_fn d_number_of (hr.mono (by decide)) (by rfl) (pa_cons (pv 3) pa_nil))))
    (pss_one (ps_ret (pe_ifExp (PW.pt (pw_or (pt_cmpR (op_neK K rfl hr.units) (pe_callB (call_lenK K rfl) (by rfl) T.n_len (by decide +kernel) (pa_cons (pv 0) pa_nil)) (pv 1) (nomark _)) (pw_or1 (pt_cmpR (op_inDK K rfl (hu65 hr)) pe_non (pv 2) (by rfl))))) pe_non (pe_callTy (call_tupleK K rfl) (by rfl) T.n_tuple (by decide +kernel) (pa_cons (pv 2) pa_nil)))))), ?_⟩
    try dsimp only [cxOf, Cx.nox, Cx.wish]
    refine q_asg (K := K) e (d := .lst (ns.map fun n : Nat => .int n)) (EvD.eq (EvF.toD (f_lcm (xs := ns) (Y := nth ((ns.map numS).map D.str)) (js := [3]) (fun _ n => [.str (numS n)]) (fun _ => true) (fun n : Nat => .int n)
      (i_seqL' (by rw [List.length_map, List.length_map]) (e_var rfl r0)) (fun i x hx => by rw [List.map_map, nth_map hx]; exact g_name) (by omega) (fun _ _ _ => rfl) (fun us _ => wipe_set (by decide)) (fun _ _ _ _ _ _ _ => b_yes) (fun i x hx _ G2 e2 us ru => ?_))) (by rw [List.filter_eq_self.mpr (fun _ _ => rfl)])) fun v2 G1 H1 s1 r2 => ?_
    · obtain ⟨y, rfl, ry⟩ := ru.one
      exact e_call (a_one (e_var rfl ry)) ⟨x, rfl, hns x (List.mem_of_getElem? hx), rfl⟩
    have r0 := r0.ex s1.g
    have r1 := r1.ex s1.g
    refine s_ret (K := K) (d := .tup (ns.map fun n : Nat => .int n)) s1.i (e_if (b_orF (b_test (K := K) (EvD.bl (e_ne (d1 := .int ns.length) (d2 := .int ns.length) (e_len (d := .lst ((ns.map numS).map D.str)) (e_var rfl r0) (congrArg some (by rw [List.length_map, List.length_map]))) (e_var rfl r1) rfl) (by rw [decide_eq_true rfl]; rfl))) (b_test (K := K) (EvD.bl (e_inD (d1 := .non) e_non (e_var rfl r2) rfl (ok_ints ns)) (no_none ns)))) (fun z => nomatch z) (fun _ => e_tuple (e_var rfl r2))) fun v G2 H2 s2 rv => q v G2 H2 (s1.trans s2) rv
abbrev s_task_of : Stmt := top 36
abbrev N_task_of : List Str := ["words", "due", "groups", "word"]
abbrev P_task_of : List Str := ["words"]
theorem sc_task_of : FnScope N_task_of P_task_of (defScope s_task_of) := ⟨rfl, rfl, rfl, by decide +kernel, rfl, by decide +kernel, by decide +kernel⟩

def R_task_of (ds : List D) (r : D) : Prop := ∃ t : List (Nat × Nat) × Nat, ds = [.lst ((numS t.2 :: t.1.map grT).map D.str)] ∧ t.2 ≤ 999 ∧ (∀ g ∈ t.1, g.1 ≤ 999 ∧ g.2 ≤ 999) ∧ t.1.length ≤ 1000 ∧ r = tkD t
abbrev sp_task_of (K : PySem.W.Frag) : Sp := spP K R_task_of
theorem ok_grs (gs : List (Nat × Nat)) : (D.lst (gs.map gD)).ok = true := ok_lows fun d hd => by
  obtain ⟨n, _, rfl⟩ := List.mem_map.mp hd
  rfl
theorem no_noneG (gs : List (Nat × Nat)) : ((D.pyA (gs.map gD)).any fun z => PyData.eqv z (D.non).py) = false := by
  induction gs with
  | nil => rfl
  | cons n ns ih =>
    show (PyData.eqv (gD n).py (D.non).py || _) = false
    rw [show PyData.eqv (gD n).py (D.non).py = false from rfl, Bool.false_or]
    exact ih
theorem cut_tail (d : D) (ds : List D) : cutD (d :: ds) (some ((1 : Nat) : Int)) none = ds := by
  unfold cutD
  rw [HT.sIx_none, HT.sIx_nat, List.length_cons, Nat.min_eq_left (by omega), Nat.add_sub_cancel, List.drop_one]
  exact List.take_length
theorem cut_head (d : D) (ds : List D) : cutD (d :: ds) none (some ((1 : Nat) : Int)) = [d] := by
  unfold cutD
  rw [HT.sIx_none, HT.sIx_nat, List.length_cons, Nat.min_eq_left (by omega), List.drop_zero]
  rfl
theorem ok_task_of {f : Addr} {fd : FuncData} (F : Fun K "task_of" "task_of" s_task_of f fd) (T : Tx K mg) (d_numbers_of_words : Dk P w K mg base 2 "numbers_of_words" P_numbers_of_words (sp_numbers_of_words K)) : FnOk P w K mg base CX0 3 f fd P_task_of (sp_task_of K) := by
  refine F.ok sc_task_of (fun vs H Q E h => ?_) (fun cdv A outer s H vs Q E hr h => ?_)
  · obtain ⟨G, ds, r, e, ra, ⟨t, rfl, ht, hg, hl, rfl⟩, q⟩ := h
    exact ra.len
  · obtain ⟨G, ds, r, e, ra, ⟨t, rfl, ht, hg, hl, rfl⟩, q⟩ := h
    obtain ⟨v0, rfl, r0⟩ := ra.one
    refine ⟨_, (pss_cons (ps_set (i := 1) sc_task_of.nd rfl (by first | exact Or.inl rfl | exact Or.inr rfl) (pe_fn d_numbers_of_words (hr.mono (by decide)) (by rfl) (pa_cons (pe_slice (sl_seqK K rfl) (pv 0) po_none (po_some pe_int)) (pa_cons pe_int pa_nil))))
    (pss_cons (ps_setLc (i := 2) (own := [("word", 3)]) (g := gName 3) (tt := tYes) rfl sc_task_of.nd rfl rfl (sw_true rfl rfl rfl (by decide +kernel)) (pi_seqK K rfl (pe_slice (sl_seqK K rfl) (pv 0) (po_some pe_int) po_none)) (blkOk_by (own := [("word", 3)]) (N := N_task_of) (sc := defScope s_task_of) (by decide +kernel)) (fun _ _ _ _ _ => (pg_name (i := 3) sc_task_of.nd rfl (by first | exact Or.inl rfl | exact Or.inr rfl))) (fun _ _ _ _ _ => pts_nil) (fun _ _ _ _ _ => (pe_fn d_numbers_of_words (hr.mono (by decide)) (by rfl) (pa_cons (pe_splitK (pv 3) pe_str) (pa_cons pe_int pa_nil)))))
    (pss_one (ps_ret (pe_ifExp (PW.pt (pw_or (pt_cmpR op_isN (pv 1) pe_non (nomark _)) (pw_or1 (pt_cmpR (op_inDK K rfl (hu65 hr)) pe_non (pv 2) (by rfl))))) pe_non (pe_tup (pa_cons (pe_callTy (call_tupleK K rfl) (by rfl) T.n_tuple (by decide +kernel) (pa_cons (pv 2) pa_nil)) (pa_cons (pe_ix (ix_seqK K rfl) (pv 1) pe_int (fun _ _ => rfl)) pa_nil)))))))), ?_⟩
    try dsimp only [cxOf, Cx.nox, Cx.wish]
    refine q_asg (K := K) e (d := .tup [.int t.2]) (e_call (a_cons (EvD.eq (EvF.toD (f_sl (e_var rfl r0) p_none (p_some (e_int (K := K) (i := ((1 : Nat) : Int)))))) (congrArg D.lst (cut_head _ _))) (a_one e_int)) ⟨[t.2], rfl, fun n hn => by rw [List.mem_singleton.mp hn]; exact ht, by show 1 ≤ 1000; decide, rfl⟩) fun v1 G1 H1 s1 r1 => ?_
    have r0 := r0.ex s1.g
    refine q_asg (K := K) s1.i (d := .lst (t.1.map gD)) (EvD.eq (EvF.toD (f_lcm (xs := t.1) (Y := nth ((t.1.map grT).map D.str)) (js := [3]) (fun _ g => [.str (grT g)]) (fun _ => true) gD
      (i_seqL' (by rw [List.length_map, List.length_map]) (EvD.eq (EvF.toD (f_sl (e_var rfl r0) (p_some (e_int (K := K) (i := ((1 : Nat) : Int)))) p_none)) (congrArg D.lst (cut_tail _ _)))) (fun i x hx => by rw [List.map_map, nth_map hx]; exact g_name) (by omega) (fun _ _ _ => rfl) (fun us _ => wipe_set (by decide)) (fun _ _ _ _ _ _ _ => b_yes) (fun i x hx _ G2 e2 us ru => ?_))) (by rw [List.filter_eq_self.mpr (fun _ _ => rfl)])) fun v2 G2 H2 s2 r2 => ?_
    · obtain ⟨y, rfl, ry⟩ := ru.one
      obtain ⟨k1, k2⟩ := hg x (List.mem_of_getElem? hx)
      have k3 := (grT_ok k1 k2).len
      refine e_call (a_cons (EvD.eq (EvF.toD (f_split (e_var rfl ry) e_str (by decide +kernel) (by rw [sizeLine_eq]; omega))) (by rw [split_gr]; rfl)) (a_one (e_int (i := 2)))) ⟨[x.1, x.2], rfl, fun n hn => ?_, by show 2 ≤ 1000; decide, rfl⟩
      simp only [List.mem_cons, List.not_mem_nil, or_false] at hn
      rcases hn with rfl | rfl
      · exact k1
      · exact k2
    have r1 := r1.ex s2.g
    refine s_ret (K := K) (d := tkD t) s2.i (e_if (b_orF (b_test (e_isN (e_var rfl r1) rfl)) (b_test (K := K) (EvD.bl (e_inD (d1 := .non) e_non (e_var rfl r2) rfl (ok_grs t.1)) (no_noneG t.1)))) (fun z => nomatch z) (fun _ => e_tup2 (e_tuple (e_var rfl r2)) (e_ix (d1 := .tup [.int t.2]) (e_var rfl r1) e_int rfl))) fun v G3 H3 s3 rv => q v G3 H3 ((s1.trans s2).trans s3) rv

end

section
variable [Tbs] {P : Program} {w : World} {K : PySem.W.Frag} {mg : Str → Option Value} {base : Heap}
/-! ### the reader of rows -/
abbrev s_Reader_init : Stmt := inClass (top 37) 0
abbrev N_Reader_init : List Str := ["self"]
abbrev P_Reader_init : List Str := ["self"]
theorem sc_Reader_init : FnScope N_Reader_init P_Reader_init (defScope s_Reader_init) := ⟨rfl, rfl, rfl, by decide +kernel, rfl, by decide +kernel, by decide +kernel⟩

abbrev s_Reader_take : Stmt := inClass (top 37) 1
abbrev N_Reader_take : List Str := ["self", "words", "numbers", "task"]
abbrev P_Reader_take : List Str := ["self", "words"]
theorem sc_Reader_take : FnScope N_Reader_take P_Reader_take (defScope s_Reader_take) := ⟨rfl, rfl, rfl, by decide +kernel, rfl, by decide +kernel, by decide +kernel⟩

abbrev Hd := Str × Nat × Nat × Nat
abbrev Tk := List (Nat × Nat) × Nat
structure Rd where
  hd : Option Hd
  tk : List Tk
  of : List Try
  sd : List Ver
def rd0 : Rd := ⟨none, [], [], []⟩
def hdD : Option Hd → D
  | none => .non
  | some h => .tup [.str h.1, .int h.2.1, .int h.2.2.1, .int h.2.2.2]
structure RdA where
  o : Addr
  dx : Addr
  lo : Addr
  ls : Addr
def RdA.all (r : RdA) : List Addr := [r.o, r.lo, r.ls]
abbrev rdFs (vh vt vo vs : V) : List (Str × V) := [("head", vh), ("tasks", vt), ("offers", vo), ("said", vs)]
structure RdAt (K : PySem.W.Frag) (G M : Hp) (r : RdA) (st : Rd) : Prop where
  ex : ∃ vh vt xo xs, M r.o = some (.ins (cA K "Reader") r.dx (rdFs vh vt (.ref r.lo) (.ref r.ls))) ∧ Rp K G vh (hdD st.hd) ∧ Rp K G vt (.tup (st.tk.map tkD)) ∧ M r.lo = some (.lst xo) ∧ RpA K G xo (st.of.map trD) ∧ M r.ls = some (.lst xs) ∧ RpA K G xs (st.sd.map vrD) ∧ r.lo ≠ r.ls
structure RdC (K : PySem.W.Frag) : Prop where
  k : Cls K (cA K "Reader")
  h : NoAttr K (cA K "Reader") "head"
  t : NoAttr K (cA K "Reader") "tasks"
  o : NoAttr K (cA K "Reader") "offers"
  s : NoAttr K (cA K "Reader") "said"
abbrev rdC (T : Tx K mg) : RdC K := ⟨T.k_Reader, T.n_Reader_head, T.n_Reader_tasks, T.n_Reader_offers, T.n_Reader_said⟩
theorem tks_tupO (l : List Tk) : (D.tup (l.map tkD)).tupO = true := tupOA_map (fun t => by
  show ((D.tup (t.1.map gD)).tupO && (true && true)) = true
  rw [show (D.tup (t.1.map gD)).tupO = true from tupOA_map (fun _ => rfl) _]; rfl) _
theorem tk_tupO (t : Tk) : (tkD t).tupO = true := by
  show ((D.tup (t.1.map gD)).tupO && (true && true)) = true
  rw [show (D.tup (t.1.map gD)).tupO = true from tupOA_map (fun _ => rfl) _]; rfl
theorem snoc_map {α : Type} {f : α → D} {G : Hp} {xs : List V} {l : List α} {v : V} {a : α} (h : RpA K G xs (l.map f)) (r : Rp K G v (f a)) : RpA K G (xs ++ [v]) ((l ++ [a]).map f) := by
  rw [List.map_append]
  exact h.snoc r
section
variable {G M G1 M1 H H1 : Hp} {r : RdA} {st : Rd} {σ : L2.St} {te : TE}
theorem RdAt.exx (a : RdAt K G M r st) (e : Ex G G1) : RdAt K G1 M r st := by
  obtain ⟨vh, vt, xo, xs, h1, r1, r2, h2, r3, h3, r4, n⟩ := a.ex
  exact ⟨vh, vt, xo, xs, h1, r1.ex e, r2.ex e, h2, r3.ex e, h3, r4.ex e, n⟩
theorem RdAt.fh (a : RdAt K G M r st) (C : RdC K) (ow : Owns M G H) (ho : EvO te σ (over G M) r.o) : EvD K (tFld K te "head") σ (over G M) (hdD st.hd) := by
  obtain ⟨vh, vt, xo, xs, h1, r1, r2, h2, r3, h3, r4, n⟩ := a.ex
  exact e_fld ho (over_some h1) C.k C.h (by rfl) (r1.ex ow.gg)
theorem RdAt.fhN (a : RdAt K G M r st) (C : RdC K) (ow : Owns M G H) (h : st.hd = none) (ho : EvO te σ (over G M) r.o) : EvD K (tFld K te "head") σ (over G M) .non := EvD.eq (a.fh C ow ho) (by rw [h]; rfl)
theorem RdAt.fhS (a : RdAt K G M r st) (C : RdC K) (ow : Owns M G H) {hd : Hd} (h : st.hd = some hd) (ho : EvO te σ (over G M) r.o) : EvD K (tFld K te "head") σ (over G M) (hdD (some hd)) := EvD.eq (a.fh C ow ho) (by rw [h])
theorem RdAt.ft (a : RdAt K G M r st) (C : RdC K) (ow : Owns M G H) (ho : EvO te σ (over G M) r.o) : EvD K (tFld K te "tasks") σ (over G M) (.tup (st.tk.map tkD)) := by
  obtain ⟨vh, vt, xo, xs, h1, r1, r2, h2, r3, h3, r4, n⟩ := a.ex
  exact e_fld ho (over_some h1) C.k C.t (by rfl) (r2.ex ow.gg)
theorem RdAt.fo (a : RdAt K G M r st) (C : RdC K) (ow : Owns M G H) (ho : EvO te σ (over G M) r.o) : EvD K (tFld K te "offers") σ (over G M) (trsD st.of) := by
  obtain ⟨vh, vt, xo, xs, h1, r1, r2, h2, r3, h3, r4, n⟩ := a.ex
  exact e_fld ho (over_some h1) C.k C.o (by rfl) (.lst (over_some h2) (r3.ex ow.gg))
theorem RdAt.fs (a : RdAt K G M r st) (C : RdC K) (ow : Owns M G H) (ho : EvO te σ (over G M) r.o) : EvD K (tFld K te "said") σ (over G M) (vrsD st.sd) := by
  obtain ⟨vh, vt, xo, xs, h1, r1, r2, h2, r3, h3, r4, n⟩ := a.ex
  exact e_fld ho (over_some h1) C.k C.s (by rfl) (.lst (over_some h3) (r4.ex ow.gg))
theorem RdAt.oo (a : RdAt K G M r st) (C : RdC K) (ho : EvO te σ (over G M) r.o) : EvO (tFld K te "offers") σ (over G M) r.lo := by
  obtain ⟨vh, vt, xo, xs, h1, r1, r2, h2, r3, h3, r4, n⟩ := a.ex
  exact o_fld ho (over_some h1) C.k C.o (by rfl)
theorem RdAt.os (a : RdAt K G M r st) (C : RdC K) (ho : EvO te σ (over G M) r.o) : EvO (tFld K te "said") σ (over G M) r.ls := by
  obtain ⟨vh, vt, xo, xs, h1, r1, r2, h2, r3, h3, r4, n⟩ := a.ex
  exact o_fld ho (over_some h1) C.k C.s (by rfl)
end
/-! rows -/
inductive RRow where
  | con (h : Hd)
  | tk (t : Tk)
  | tr (t : Try)
  | vr (v : Ver)
def RRow.ws : RRow → List Str
  | .con h => [wCon, h.1, numS h.2.1, numS h.2.2.1, numS h.2.2.2]
  | .tk t => tkW t
  | .tr t => trW t
  | .vr v => vrW v
def RRow.ok : RRow → Prop
  | .con h => h.2.1 ≤ 999 ∧ h.2.2.1 ≤ 999 ∧ h.2.2.2 ≤ 999
  | .tk t => t.2 ≤ 999 ∧ (∀ g ∈ t.1, g.1 ≤ 999 ∧ g.2 ≤ 999) ∧ t.1.length ≤ 1000
  | .tr t => t.1 ≤ 999 ∧ t.2.1 ≤ 999 ∧ t.2.2 ≤ 999
  | .vr v => v.1 ≤ 999 ∧ v.2.1 ≤ 999
def RRow.fits (st : Rd) : RRow → Prop
  | .con _ => st.hd = none
  | .tk _ => st.hd.isSome = true ∧ st.of = [] ∧ st.sd = []
  | .tr _ => st.hd.isSome = true ∧ st.sd = []
  | .vr _ => st.hd.isSome = true
def Rd.app (st : Rd) : RRow → Rd
  | .con h => { st with hd := some h }
  | .tk t => { st with tk := st.tk ++ [t] }
  | .tr t => { st with of := st.of ++ [t] }
  | .vr v => { st with sd := st.sd ++ [v] }
def mkL : List (Str × V) := [(tPl, .bl true), (tMi, .bl false)]
def sp_Reader_take (K : PySem.W.Frag) : Sp := fun vs H Q _ => ∃ G M r st row v1, vs = [.ref r.o, v1] ∧ Ex G H ∧ Owns M G H ∧ RdAt K G M r st ∧ Rp K G v1 (.lst (row.ws.map D.str)) ∧ RRow.ok row ∧ RRow.fits st row ∧ st.tk.length ≤ 1000 ∧ st.of.length ≤ 90000 ∧ st.sd.length ≤ 90000 ∧
  ∀ G' M' H', Ex G G' → Chg G M H r.all G' M' H' r.all → RdAt K G' M' r (st.app row) → Q (.bl true) H'
def sp_Reader_init (K : PySem.W.Frag) : Sp := fun vs H Q _ => ∃ G M H0 x dx, vs = [.ref x] ∧ H = upd (upd H0 dx (.own x)) x (.ins (cA K "Reader") dx []) ∧ H0 x = none ∧ H0 dx = none ∧ dx ≠ x ∧ Ex G H0 ∧ Owns M G H0 ∧
  ∀ G' M' H' (r : RdA), r.o = x → Ex G G' → Chg G M H0 [] G' M' H' r.all → RdAt K G' M' r rd0 → Q .non H'
theorem hv_Reader_init {vs : List V} {H : Hp} {Q : VK} {E : XK} (h : sp_Reader_init K vs H Q E) : ∃ o, vs = [.ref o] := by
  obtain ⟨G, M, H0, x, dx, rfl, _⟩ := h
  exact ⟨x, rfl⟩
theorem ok_Reader_init {f : Addr} {fd : FuncData} (F : Fun K "__init__" "Reader.__init__" s_Reader_init f fd) (T : Tx K mg) : FnOk P w K mg base CX0 1 f fd P_Reader_init (sp_Reader_init K) := by
  refine F.ok sc_Reader_init (fun vs H Q E h => ?_) (fun cdv A outer s H vs Q E hr h => ?_)
  · obtain ⟨o, rfl⟩ := hv_Reader_init h
    first | rfl | exact congrArg (· + 1) ra.len | exact congrArg (· + 2) ra.len
  · obtain ⟨o, rfl⟩ := hv_Reader_init h
    refine ⟨_, (pss_cons (ps_fldK K rfl (pv 0) pe_non rfl)
    (pss_cons (ps_fldK K rfl (pv 0) (pe_tup pa_nil) rfl)
    (pss_cons (ps_fldK K rfl (pv 0) (pe_lst pa_nil) rfl)
    (pss_one (ps_fldK K rfl (pv 0) (pe_lst pa_nil) rfl))))), ?_⟩
    try dsimp only [cxOf, Cx.nox, Cx.wish]
    obtain ⟨G, M, H0, x, dx, ev, eH, hx, hdx, ne, e, ow, q⟩ := h
    cases ev
    subst eH
    have C := rdC T
    have c0 : Chg G M H0 [] G M H0 [] := Chg.refl e ow
    have c1 := c0.then (Step.own (o := .own o) e hdx)
    have hx1 : upd H0 dx (.own o) o = none := by rw [upd_ne (Ne.symm ne)]; exact hx
    have c2 := c1.new (w := .ins (cA K "Reader") dx []) hx1
    have hm2 : upd M o (.ins (cA K "Reader") dx []) o = some (.ins (cA K "Reader") dx []) := upd_same
    generalize upd M o (.ins (cA K "Reader") dx []) = M2 at c2 hm2
    generalize upd (upd H0 dx (.own o)) o (.ins (cA K "Reader") dx []) = H2 at c2
    refine q_fldV (K := K) (d := .non) c2 List.mem_cons_self hm2 e_non rfl (o_name rfl) C.k C.h (by decide) fun vh G3 H3 e3 c3 rh => ?_
    have hm3 : upd M2 o (.ins (cA K "Reader") dx (putF "head" vh [])) o = some (.ins (cA K "Reader") dx (putF "head" vh [])) := upd_same
    generalize upd M2 o (.ins (cA K "Reader") dx (putF "head" vh [])) = M3 at c3 hm3
    refine q_fldV (K := K) (d := .tup []) c3 List.mem_cons_self hm3 (e_tup a_nil (by show 0 ≤ 100000; decide)) rfl (o_name rfl) C.k C.t (by show 1 < 1000; decide) fun vt G4 H4 e4 c4 rt => ?_
    have hm4 : upd M3 o (.ins (cA K "Reader") dx (putF "tasks" vt (putF "head" vh []))) o = some (.ins (cA K "Reader") dx (putF "tasks" vt (putF "head" vh []))) := upd_same
    generalize upd M3 o (.ins (cA K "Reader") dx (putF "tasks" vt (putF "head" vh []))) = M4 at c4 hm4
    refine q_fldC (K := K) (ds := []) c4 List.mem_cons_self hm4 (f_lst a_nil (by show 0 ≤ 100000; decide)) rfl (o_name rfl) C.k C.o (by show 2 < 1000; decide) fun lo xo G6 H6 e6 lo1 lo2 lo3 c6 ro => ?_
    have hm6 : upd (upd M4 lo (.lst xo)) o (.ins (cA K "Reader") dx (putF "offers" (.ref lo) (putF "tasks" vt (putF "head" vh [])))) o = some (.ins (cA K "Reader") dx (putF "offers" (.ref lo) (putF "tasks" vt (putF "head" vh [])))) := upd_same
    have ho6 : upd (upd M4 lo (.lst xo)) o (.ins (cA K "Reader") dx (putF "offers" (.ref lo) (putF "tasks" vt (putF "head" vh [])))) lo = some (.lst xo) := by rw [upd_ne lo3, upd_same]
    generalize upd (upd M4 lo (.lst xo)) o (.ins (cA K "Reader") dx (putF "offers" (.ref lo) (putF "tasks" vt (putF "head" vh [])))) = M6 at c6 hm6 ho6
    refine s_fldC (K := K) (ds := []) c6 (by simp) hm6 (f_lst a_nil (by show 0 ≤ 100000; decide)) rfl (o_name rfl) C.k C.s (by show 3 < 1000; decide) fun ls xs G9 H9 e9 ls1 ls2 ls3 c9 rs => ?_
    have lso : ls ≠ lo := fun z => by rw [z, ho6] at ls1; cases ls1
    refine q G9 _ H9 ⟨o, dx, lo, ls⟩ rfl (e3.trans (e4.trans (e6.trans e9))) (c9.less fun b hb => ?_) ⟨vh, vt, xo, xs, upd_same, rh.ex (e4.trans (e6.trans e9)), rt.ex (e6.trans e9), ?_, ro.ex e9, ?_, rs, Ne.symm lso⟩
    · unfold RdA.all at hb
      simp only [List.mem_cons, List.not_mem_nil, or_false] at hb ⊢
      rcases hb with h | h | h
      · exact .inr (.inr h)
      · exact .inr (.inl h)
      · exact .inl h
    · rw [upd_ne lo3, upd_ne (Ne.symm lso)]; exact ho6
    · rw [upd_ne ls3, upd_same]
theorem ok_Reader_take {f : Addr} {fd : FuncData} (F : Fun K "take" "Reader.take" s_Reader_take f fd) (T : Tx K mg) (MK : ∃ a, mg "MARKS" = some (.ref a) ∧ KTabV K w a mkL) (d_numbers_of_words : Dk P w K mg base 2 "numbers_of_words" P_numbers_of_words (sp_numbers_of_words K)) (d_task_of : Dk P w K mg base 3 "task_of" P_task_of (sp_task_of K)) : FnOk P w K mg base CX0 4 f fd P_Reader_take (sp_Reader_take K) := by
  refine F.ok sc_Reader_take (fun vs H Q E h => ?_) (fun cdv A outer s H vs Q E hr h => ?_)
  · obtain ⟨G, M, r, st, row, v1, rfl, e, ow, a, r1, ok, ft, z1, z2, z3, q⟩ := h
    first | rfl | exact congrArg (· + 1) ra.len | exact congrArg (· + 2) ra.len
  · obtain ⟨G, M, r, st, row, v1, rfl, e, ow, a, r1, ok, ft, z1, z2, z3, q⟩ := h
    obtain ⟨aM, m_MARKS, TM⟩ := MK
    refine ⟨_, (pss_cons (ps_if (PW.pt (pw_or (pt_cmpR op_isN (pe_fldK K rfl (pv 0) rfl) pe_non (nomark _)) (pw_or1 (pt_cmpR (op_eqK K rfl hr.units) (pe_ix (ix_seqK K rfl) (pv 1) pe_int (fun _ _ => rfl)) pe_str (nomark _))))) (pss_cons (ps_set (i := 2) sc_Reader_take.nd rfl (by first | exact Or.inl rfl | exact Or.inr rfl) (pe_fn d_numbers_of_words (hr.mono (by decide)) (by rfl) (pa_cons (pe_slice (sl_seqK K rfl) (pv 1) (po_some pe_int) po_none) (pa_cons pe_int pa_nil))))
    (pss_cons (ps_if (PW.pt (pw_or (pt_cmpR op_notN (pe_fldK K rfl (pv 0) rfl) pe_non (nomark _)) (pw_or (pt_cmpR (op_neK K rfl hr.units) (pe_ix (ix_seqK K rfl) (pv 1) pe_int (fun _ _ => rfl)) pe_str (nomark _)) (pw_or1 (pt_cmpR op_isN (pv 2) pe_non (nomark _)))))) (pss_one (ps_ret pe_bl)) pss_nil)
    (pss_cons (ps_fldK K rfl (pv 0) (pe_op (op_addK K rfl) (pe_tup (pa_cons (pe_ix (ix_seqK K rfl) (pv 1) pe_int (fun _ _ => rfl)) pa_nil)) (pv 2)) rfl)
    (pss_one (ps_ret pe_bl))))) pss_nil)
    (pss_cons (ps_if (pt_cmpR (op_eqK K rfl hr.units) (pe_ix (ix_seqK K rfl) (pv 1) pe_int (fun _ _ => rfl)) pe_str (nomark _)) (pss_cons (ps_set (i := 3) sc_Reader_take.nd rfl (by first | exact Or.inl rfl | exact Or.inr rfl) (pe_fn d_task_of (hr.mono (by decide)) (by rfl) (pa_cons (pe_slice (sl_seqK K rfl) (pv 1) (po_some pe_int) po_none) pa_nil)))
    (pss_cons (ps_if (PW.pt (pw_or (pt_cmpR op_isN (pv 3) pe_non (nomark _)) (pw_or (pt_cmpR (op_neK K rfl hr.units) (pe_fldK K rfl (pv 0) rfl) (pe_lst pa_nil) (nomark _)) (pw_or1 (pt_cmpR (op_neK K rfl hr.units) (pe_fldK K rfl (pv 0) rfl) (pe_lst pa_nil) (nomark _)))))) (pss_one (ps_ret pe_bl)) pss_nil)
    (pss_cons (ps_fldK K rfl (pv 0) (pe_op (op_addK K rfl) (pe_fldK K rfl (pv 0) rfl) (pe_tup (pa_cons (pv 3) pa_nil))) rfl)
    (pss_one (ps_ret pe_bl))))) pss_nil)
    (pss_cons (ps_if (pt_cmpR (op_eqK K rfl hr.units) (pe_ix (ix_seqK K rfl) (pv 1) pe_int (fun _ _ => rfl)) pe_str (nomark _)) (pss_cons (ps_set (i := 2) sc_Reader_take.nd rfl (by first | exact Or.inl rfl | exact Or.inr rfl) (pe_fn d_numbers_of_words (hr.mono (by decide)) (by rfl) (pa_cons (pe_slice (sl_seqK K rfl) (pv 1) (po_some pe_int) po_none) (pa_cons pe_int pa_nil))))
    (pss_cons (ps_if (PW.pt (pw_or (pt_cmpR op_isN (pv 2) pe_non (nomark _)) (pw_or1 (pt_cmpR (op_neK K rfl hr.units) (pe_fldK K rfl (pv 0) rfl) (pe_lst pa_nil) (nomark _))))) (pss_one (ps_ret pe_bl)) pss_nil)
    (pss_cons (ps_expr (pe_bm PySem.F.plainAttrs_list PySem.F.slot_list_append PySem.F.type_list_append mt_append (pe_fldK K rfl (pv 0) rfl) (pa_cons (pv 2) pa_nil)))
    (pss_one (ps_ret pe_bl))))) pss_nil)
    (pss_cons (ps_set (i := 2) sc_Reader_take.nd rfl (by first | exact Or.inl rfl | exact Or.inr rfl) (pe_fn d_numbers_of_words (hr.mono (by decide)) (by rfl) (pa_cons (pe_slice (sl_seqK K rfl) (pv 1) (po_some pe_int) (po_some pe_int)) (pa_cons pe_int pa_nil))))
    (pss_cons (ps_if (PW.pt (pw_or (pt_cmpR (op_neK K rfl hr.units) (pe_ix (ix_seqK K rfl) (pv 1) pe_int (fun _ _ => rfl)) pe_str (nomark _)) (pw_or (pt_cmpR (op_neK K rfl hr.units) (pe_callB (call_lenK K rfl) (by rfl) T.n_len (by decide +kernel) (pa_cons (pv 1) pa_nil)) pe_int (nomark _)) (pw_or (pt_cmpR op_isN (pv 2) pe_non (nomark _)) (pw_or1 (pt_cmpR (op_ninKV K w rfl rfl) (pe_ix (ix_seqK K rfl) (pv 1) pe_int (fun _ _ => rfl)) (pe_gR rfl m_MARKS) (by rfl))))))) (pss_one (ps_ret pe_bl)) pss_nil)
    (pss_cons (ps_expr (pe_bm PySem.F.plainAttrs_list PySem.F.slot_list_append PySem.F.type_list_append mt_append (pe_fldK K rfl (pv 0) rfl) (pa_cons (pe_op (op_addK K rfl) (pv 2) (pe_tup (pa_cons (pe_ix (ix_kdK K w rfl rfl) (pe_gR rfl m_MARKS) (pe_ix (ix_seqK K rfl) (pv 1) pe_int (fun _ _ => rfl)) (fun _ _ => rfl)) pa_nil))) pa_nil)))
    (pss_one (ps_ret pe_bl)))))))), ?_⟩
    try dsimp only [cxOf, Cx.nox, Cx.wish]
    have c0 : Chg G M H r.all G M H r.all := Chg.refl e ow
    have C := rdC T
    have io : r.o ∈ r.all := by simp [RdA.all]
    have ilo : r.lo ∈ r.all := by simp [RdA.all]
    have ils : r.ls ∈ r.all := by simp [RdA.all]
    obtain ⟨vh, vt, xo, xs, h1, p1, p2, h2, p3, h3, p4, nl⟩ := a.ex
    have nol : r.o ≠ r.lo := fun z => by rw [z, h2] at h1; cases h1
    have nos : r.o ≠ r.ls := fun z => by rw [z, h3] at h1; cases h1
    show tSeq _ _ _ [some (.ref r.o), some v1, none, none] H
    cases row with
    | con hd =>
      obtain ⟨k1, k2, k3⟩ := ok
      have ft : st.hd = none := ft
      have a' := a
      refine q_whenC c0 (b := true) (b_orT (b_test (K := K) (e_isN (d := .non) (a.fhN C ow ft (o_name rfl)) rfl))) (fun _ G1 H1 e1 c1 => ?_) (fun z => nomatch z)
      have r1 := r1.ex e1
      refine q_asgC' (K := K) (d := .tup [.int hd.2.1, .int hd.2.2.1, .int hd.2.2.2]) c1 (e_call (a_cons (EvD.eq (EvF.toD (f_sl (e_var rfl (r1.ex c1.o.gg)) (p_some (e_int (K := K) (i := 2))) p_none)) (show D.lst (cutD (([wCon, hd.1, numS hd.2.1, numS hd.2.2.1, numS hd.2.2.2] : List Str).map D.str) (some 2) none) = D.lst (([hd.2.1, hd.2.2.1, hd.2.2.2].map numS).map D.str) from rfl)) (a_one (e_int (i := 3)))) ⟨[hd.2.1, hd.2.2.1, hd.2.2.2], rfl, fun n hn => ?_, by show 3 ≤ 1000; decide, rfl⟩) rfl fun v2 G2 H2 e2 c2 r2 => ?_
      · simp only [List.mem_cons, List.not_mem_nil, or_false] at hn
        rcases hn with rfl | rfl | rfl
        · exact k1
        · exact k2
        · exact k3
      have a2 := (a.exx e1).exx e2
      have r1 := r1.ex e2
      refine q_whenC c2 (b := false) (b_orF (b_test (K := K) (e_notN (d := .non) (a2.fhN C c2.o ft (o_name rfl)) rfl)) (b_orF (b_test (K := K) (EvD.bl (e_ne (d1 := .str wCon) (d2 := .str wCon) (e_ix (d1 := .lst ((RRow.con hd).ws.map D.str)) (e_var rfl (r1.ex c2.o.gg)) e_int rfl) e_str rfl) (by rw [decide_eq_true rfl]; rfl))) (b_test (K := K) (e_isN (d := .tup [.int hd.2.1, .int hd.2.2.1, .int hd.2.2.2]) (e_var rfl (r2.ex c2.o.gg)) rfl)))) (fun z => nomatch z) fun _ G3 H3 e3 c3 => ?_
      have r1 := r1.ex e3
      have r2 := r2.ex e3
      refine q_fldV (K := K) (d := hdD (some hd)) c3 io h1 (e_catA (ds := [.str hd.1]) (es := [.int hd.2.1, .int hd.2.2.1, .int hd.2.2.2]) (e_tup1 (e_ix (d1 := .lst ((RRow.con hd).ws.map D.str)) (e_var rfl (r1.ex c3.o.gg)) e_int rfl)) (e_var rfl (r2.ex c3.o.gg)) (by show 1 + 3 ≤ 1000000; decide)) rfl (o_name rfl) C.k C.h (by show 4 < 1000; decide) fun vh' G4 H4 e4 c4 rh => ?_
      have a4 : RdAt K G4 (upd M r.o (.ins (cA K "Reader") r.dx (putF "head" vh' (rdFs vh vt (.ref r.lo) (.ref r.ls))))) r (st.app (.con hd)) := by
        have e04 := e1.trans (e2.trans (e3.trans e4))
        exact ⟨vh', vt, xo, xs, upd_same, rh, p2.ex e04, by rw [upd_ne (Ne.symm nol)]; exact h2, p3.ex e04, by rw [upd_ne (Ne.symm nos)]; exact h3, p4.ex e04, nl⟩
      generalize upd M r.o (.ins (cA K "Reader") r.dx (putF "head" vh' (rdFs vh vt (.ref r.lo) (.ref r.ls)))) = M4 at c4 a4
      refine s_retC (K := K) (d := .bl true) c4 e_bl rfl fun v5 G5 H5 e5 c5 rv => ?_
      cases rv
      exact q G5 M4 H5 (e1.trans (e2.trans (e3.trans (e4.trans e5)))) c5 (a4.exx e5)
    | tk t =>
      obtain ⟨k1, k2, k3⟩ := ok
      obtain ⟨f1, f2, f3⟩ := ft
      obtain ⟨hd, fh⟩ := Option.isSome_iff_exists.mp f1
      have w0 : ∀ {G : Hp}, Rp K G v1 (.lst ((RRow.tk t).ws.map D.str)) → EvD K (tOp (rIx K) (tVar 1) (tC (.int 0))) [some (.ref r.o), some v1, none, none] G (.str wTas) := fun h => e_ix (d1 := .lst ((tkW t).map D.str)) (i := ((0 : Nat) : Int)) (e_var rfl h) e_int (at_mapL (f := D.str) (xs := tkW t) (x := wTas) rfl)
      refine q_whenC c0 (b := false) (b_orF (b_test (K := K) (e_isN (d := hdD (some hd)) (a.fhS C ow fh (o_name rfl)) rfl)) (b_test (K := K) (EvD.bl (e_eq (d1 := .str wTas) (d2 := .str wCon) (w0 (r1.ex ow.gg)) e_str rfl) (by decide +kernel)))) (fun z => nomatch z) fun _ G1 H1 e1 c1 => ?_
      have r1 := r1.ex e1
      have a1 := a.exx e1
      refine q_whenC c1 (b := true) (b_test (K := K) (EvD.bl (e_eq (d1 := .str wTas) (d2 := .str wTas) (w0 (r1.ex c1.o.gg)) e_str rfl) (by decide +kernel))) (fun _ G2 H2 e2 c2 => ?_) (fun z => nomatch z)
      have r1 := r1.ex e2
      refine q_asgC' (K := K) (d := tkD t) c2 (e_call (a_one (EvD.eq (EvF.toD (f_sl (e_var rfl (r1.ex c2.o.gg)) (p_some (e_int (K := K) (i := ((1 : Nat) : Int)))) p_none)) (congrArg D.lst (cut_tail (.str wTas) ((numS t.2 :: t.1.map grT).map D.str))))) ⟨t, rfl, k1, k2, k3, rfl⟩) (tk_tupO t) fun v3 G3 H3 e3 c3 r3 => ?_
      have a3 := (a1.exx e2).exx e3
      refine q_whenC c3 (b := false) (b_orF (b_test (K := K) (e_isN (d := tkD t) (e_var rfl (r3.ex c3.o.gg)) rfl)) (b_orF (b_test (K := K) (EvD.bl (e_neD (d1 := .lst []) (d2 := .lst []) (EvD.eq (a3.fo C c3.o (o_name rfl)) (by rw [f2]; rfl)) (EvF.toD (f_lst a_nil (by show 0 ≤ 100000; decide))) rfl rfl) rfl)) (b_test (K := K) (EvD.bl (e_neD (d1 := .lst []) (d2 := .lst []) (EvD.eq (a3.fs C c3.o (o_name rfl)) (by rw [f3]; rfl)) (EvF.toD (f_lst a_nil (by show 0 ≤ 100000; decide))) rfl rfl) rfl)))) (fun z => nomatch z) fun _ G4 H4 e4 c4 => ?_
      have r3 := r3.ex e4
      have a4 := a3.exx e4
      refine q_fldV (K := K) (d := .tup ((st.tk ++ [t]).map tkD)) c4 io h1 (EvD.eq (e_catA (ds := st.tk.map tkD) (es := [tkD t]) (a4.ft C c4.o (o_name rfl)) (e_tup1 (e_var rfl (r3.ex c4.o.gg))) (by rw [List.length_map]; show st.tk.length + 1 ≤ 1000000; omega)) (by rw [List.map_append]; rfl)) (tks_tupO _) (o_name rfl) C.k C.t (by show 4 < 1000; decide) fun vt' G5 H5 e5 c5 rt => ?_
      have e05 := e1.trans (e2.trans (e3.trans (e4.trans e5)))
      have a5 : RdAt K G5 (upd M r.o (.ins (cA K "Reader") r.dx (putF "tasks" vt' (rdFs vh vt (.ref r.lo) (.ref r.ls))))) r (st.app (.tk t)) :=
        ⟨vh, vt', xo, xs, upd_same, p1.ex e05, rt, by rw [upd_ne (Ne.symm nol)]; exact h2, p3.ex e05, by rw [upd_ne (Ne.symm nos)]; exact h3, p4.ex e05, nl⟩
      generalize upd M r.o (.ins (cA K "Reader") r.dx (putF "tasks" vt' (rdFs vh vt (.ref r.lo) (.ref r.ls)))) = M5 at c5 a5
      refine s_retC (K := K) (d := .bl true) c5 e_bl rfl fun v6 G6 H6 e6 c6 rv => ?_
      cases rv
      exact q G6 M5 H6 (e05.trans e6) c6 (a5.exx e6)
    | tr t =>
      obtain ⟨k1, k2, k3⟩ := ok
      obtain ⟨f1, f3⟩ := ft
      obtain ⟨hd, fh⟩ := Option.isSome_iff_exists.mp f1
      have w0 : ∀ {G : Hp}, Rp K G v1 (.lst ((RRow.tr t).ws.map D.str)) → EvD K (tOp (rIx K) (tVar 1) (tC (.int 0))) [some (.ref r.o), some v1, none, none] G (.str wTry) := fun h => e_ix (d1 := .lst ((RRow.tr t).ws.map D.str)) (e_var rfl h) e_int rfl
      refine q_whenC c0 (b := false) (b_orF (b_test (K := K) (e_isN (d := hdD (some hd)) (a.fhS C ow fh (o_name rfl)) rfl)) (b_test (K := K) (EvD.bl (e_eq (d1 := .str wTry) (d2 := .str wCon) (w0 (r1.ex ow.gg)) e_str rfl) (by decide +kernel)))) (fun z => nomatch z) fun _ G1 H1 e1 c1 => ?_
      have r1 := r1.ex e1
      have a1 := a.exx e1
      refine q_whenC c1 (b := false) (b_test (K := K) (EvD.bl (e_eq (d1 := .str wTry) (d2 := .str wTas) (w0 (r1.ex c1.o.gg)) e_str rfl) (by decide +kernel))) (fun z => nomatch z) fun _ G2 H2 e2 c2 => ?_
      have r1 := r1.ex e2
      have a2 := a1.exx e2
      refine q_whenC c2 (b := true) (b_test (K := K) (EvD.bl (e_eq (d1 := .str wTry) (d2 := .str wTry) (w0 (r1.ex c2.o.gg)) e_str rfl) (by decide +kernel))) (fun _ G3 H3 e3 c3 => ?_) (fun z => nomatch z)
      have r1 := r1.ex e3
      have a3 := a2.exx e3
      refine q_asgC' (K := K) (d := trD t) c3 (e_call (d := trD t) (a_cons (EvD.eq (EvF.toD (f_sl (e_var rfl (r1.ex c3.o.gg)) (p_some (e_int (K := K) (i := ((1 : Nat) : Int)))) p_none)) (congrArg D.lst (cut_tail (.str wTry) (([numS t.1, numS t.2.1, numS t.2.2] : List Str).map D.str)))) (a_one (e_int (i := 3)))) ⟨[t.1, t.2.1, t.2.2], rfl, fun n hn => ?_, by show 3 ≤ 1000; decide, rfl⟩) rfl fun v2 G4 H4 e4 c4 r2 => ?_
      · simp only [List.mem_cons, List.not_mem_nil, or_false] at hn
        rcases hn with rfl | rfl | rfl
        · exact k1
        · exact k2
        · exact k3
      have a4 := a3.exx e4
      refine q_whenC c4 (b := false) (b_orF (b_test (K := K) (e_isN (d := trD t) (e_var rfl (r2.ex c4.o.gg)) rfl)) (b_test (K := K) (EvD.bl (e_neD (d1 := .lst []) (d2 := .lst []) (EvD.eq (a4.fs C c4.o (o_name rfl)) (by rw [f3]; rfl)) (EvF.toD (f_lst a_nil (by show 0 ≤ 100000; decide))) rfl rfl) rfl))) (fun z => nomatch z) fun _ G5 H5 e5 c5 => ?_
      have r2 := r2.ex e5
      have a5 := a4.exx e5
      have hol : xo.length = st.of.length := by rw [p3.len, List.length_map]
      refine q_appM (K := K) (d := trD t) c5 ilo h2 (a5.oo C (o_name rfl)) (e_var rfl (r2.ex c5.o.gg)) rfl (by omega) fun v G6 H6 e6 c6 rv => ?_
      have e06 := e1.trans (e2.trans (e3.trans (e4.trans (e5.trans e6))))
      have a6 : RdAt K G6 (upd M r.lo (.lst (xo ++ [v]))) r (st.app (.tr t)) := ⟨vh, vt, xo ++ [v], xs, by rw [upd_ne nol]; exact h1, p1.ex e06, p2.ex e06, upd_same, snoc_map (p3.ex e06) rv, by rw [upd_ne (Ne.symm nl)]; exact h3, p4.ex e06, nl⟩
      generalize upd M r.lo (.lst (xo ++ [v])) = M6 at c6 a6
      refine s_retC (K := K) (d := .bl true) c6 e_bl rfl fun v7 G7 H7 e7 c7 rv7 => ?_
      cases rv7
      exact q G7 M6 H7 (e06.trans e7) c7 (a6.exx e7)
    | vr v =>
      obtain ⟨k1, k2⟩ := ok
      obtain ⟨hd, fh⟩ := Option.isSome_iff_exists.mp ft
      have w0 : ∀ {G : Hp}, Rp K G v1 (.lst ((RRow.vr v).ws.map D.str)) → EvD K (tOp (rIx K) (tVar 1) (tC (.int 0))) [some (.ref r.o), some v1, none, none] G (.str wVer) := fun h => e_ix (d1 := .lst ((RRow.vr v).ws.map D.str)) (e_var rfl h) e_int rfl
      refine q_whenC c0 (b := false) (b_orF (b_test (K := K) (e_isN (d := hdD (some hd)) (a.fhS C ow fh (o_name rfl)) rfl)) (b_test (K := K) (EvD.bl (e_eq (d1 := .str wVer) (d2 := .str wCon) (w0 (r1.ex ow.gg)) e_str rfl) (by decide +kernel)))) (fun z => nomatch z) fun _ G1 H1 e1 c1 => ?_
      have r1 := r1.ex e1
      have a1 := a.exx e1
      refine q_whenC c1 (b := false) (b_test (K := K) (EvD.bl (e_eq (d1 := .str wVer) (d2 := .str wTas) (w0 (r1.ex c1.o.gg)) e_str rfl) (by decide +kernel))) (fun z => nomatch z) fun _ G2 H2 e2 c2 => ?_
      have r1 := r1.ex e2
      have a2 := a1.exx e2
      refine q_whenC c2 (b := false) (b_test (K := K) (EvD.bl (e_eq (d1 := .str wVer) (d2 := .str wTry) (w0 (r1.ex c2.o.gg)) e_str rfl) (by decide +kernel))) (fun z => nomatch z) fun _ G3 H3 e3 c3 => ?_
      have r1 := r1.ex e3
      have a3 := a2.exx e3
      refine q_asgC' (K := K) (d := .tup [.int v.1, .int v.2.1]) c3 (e_call (a_cons (EvD.eq (EvF.toD (f_sl (e_var rfl (r1.ex c3.o.gg)) (p_some (e_int (K := K) (i := 1))) (p_some (e_int (K := K) (i := 3))))) (show D.lst (cutD (([wVer, numS v.1, numS v.2.1, sgn v.2.2] : List Str).map D.str) (some 1) (some 3)) = D.lst (([v.1, v.2.1].map numS).map D.str) from rfl)) (a_one (e_int (i := 2)))) ⟨[v.1, v.2.1], rfl, fun n hn => ?_, by show 2 ≤ 1000; decide, rfl⟩) rfl fun v2 G4 H4 e4 c4 r2 => ?_
      · simp only [List.mem_cons, List.not_mem_nil, or_false] at hn
        rcases hn with rfl | rfl
        · exact k1
        · exact k2
      have r1 := r1.ex e4
      have a4 := a3.exx e4
      have w3 : ∀ {G : Hp} {w2 : Option V}, Rp K G v1 (.lst ((RRow.vr v).ws.map D.str)) → EvD K (tOp (rIx K) (tVar 1) (tC (.int 3))) [some (.ref r.o), some v1, some v2, none] G (.str (sgn v.2.2)) := fun h => e_ix (d1 := .lst ((RRow.vr v).ws.map D.str)) (e_var rfl h) e_int rfl
      have hmk : (sgn v.2.2, V.bl v.2.2) ∈ mkL := by
        unfold sgn mkL
        cases v.2.2 <;> simp
      refine q_whenC c4 (b := false) (b_orF (b_test (K := K) (EvD.bl (e_ne (d1 := .str wVer) (d2 := .str wVer) (e_ix (d1 := .lst ((RRow.vr v).ws.map D.str)) (e_var rfl (r1.ex c4.o.gg)) e_int rfl) e_str rfl) (by rw [decide_eq_true rfl]; rfl))) (b_orF (b_test (K := K) (EvD.bl (e_ne (d1 := .int 4) (d2 := .int 4) (e_len (d := .lst ((RRow.vr v).ws.map D.str)) (e_var rfl (r1.ex c4.o.gg)) rfl) e_int rfl) (by decide))) (b_orF (b_test (K := K) (e_isN (d := .tup [.int v.1, .int v.2.1]) (e_var rfl (r2.ex c4.o.gg)) rfl)) (b_test (K := K) (e_ninKV (q := (sgn v.2.2, V.bl v.2.2)) (w3 (w2 := none) (r1.ex c4.o.gg)) TM hmk))))) (fun z => nomatch z) fun _ G5 H5 e5 c5 => ?_
      have r1 := r1.ex e5
      have r2 := r2.ex e5
      have a5 := a4.exx e5
      have hsl : xs.length = st.sd.length := by rw [p4.len, List.length_map]
      refine q_appM (K := K) (d := vrD v) c5 ils h3 (a5.os C (o_name rfl)) (e_catA (ds := [.int v.1, .int v.2.1]) (es := [.bl v.2.2]) (e_var rfl (r2.ex c5.o.gg)) (e_tup1 (e_ixKV (w3 (w2 := none) (r1.ex c5.o.gg)) TM hmk)) (by show 2 + 1 ≤ 1000000; decide)) rfl (by omega) fun y G6 H6 e6 c6 rv => ?_
      have e06 := e1.trans (e2.trans (e3.trans (e4.trans (e5.trans e6))))
      have a6 : RdAt K G6 (upd M r.ls (.lst (xs ++ [y]))) r (st.app (.vr v)) := ⟨vh, vt, xo, xs ++ [y], by rw [upd_ne nos]; exact h1, p1.ex e06, p2.ex e06, by rw [upd_ne nl]; exact h2, p3.ex e06, upd_same, snoc_map (p4.ex e06) rv, nl⟩
      generalize upd M r.ls (.lst (xs ++ [y])) = M6 at c6 a6
      refine s_retC (K := K) (d := .bl true) c6 e_bl rfl fun v7 G7 H7 e7 c7 rv7 => ?_
      cases rv7
      exact q G7 M6 H7 (e06.trans e7) c7 (a6.exx e7)

end

section
variable [Tbs] {P : Program} {w : World} {K : PySem.W.Frag} {mg : Str → Option Value} {base : Heap}
/-! ### a text is read -/
theorem conT17 (c : Con) : c.d.tupO = true := by
  show (true && (true && (true && (true && ((D.tup (c.tasks.map tkD)).tupO && true))))) = true
  rw [tks_tupO]
  rfl
section
variable {G M G0 M0 H0 H : Hp} {as as0 : List Addr} {σ : L2.St} {to te : TE} {o C dx : Addr} {fs : List (Str × V)} {m : Str} {sp : Sp} {E0' : XK} {ds : List D}
/-- a method called with a new list -/
theorem m_callF1 (c : Chg G0 M0 H0 as0 G M H as) (ho : EvO to σ (over G M) o) (hi : M o = some (.ins C dx fs)) (hl : fs.lookup m = none) (ha : EvF K te σ (over G M) ds) (hd : D.tupOA ds = true) (Q : VK)
    (k : ∀ v G1 H1, Ex G G1 → Chg G0 M0 H0 as0 G1 M H1 as → Rp K G1 v (.lst ds) → sp (.ref o :: ([v] ++ [])) H1 Q E0') : tMeth C m sp [] E0' to (tCons te tNil) σ H Q :=
  ho H (c.o.ex c.ii) _ fun G1 H1 s1 => ⟨o, dx, fs, rfl, s1.i.k _ _ (s1.g.k _ _ (over_some hi) rfl) rfl, hl, (ha.mono s1.g) H1 s1.i _ fun q ys G2 H2 s2 h1 h2 h3 r => by
    obtain ⟨G3, s3, o3, tr, fr, gM⟩ := (s1.trans s2).thawM c.o
    have hq := s1.pre h1
    have rr := r.off (off_tr c.o tr gM) hd
    exact k _ _ _ (s3.g.trans (Ex.new (fr q h2))) ((c.then s3).freeze (fresh_back c.s.h hq) (fr q h2) h3 (c.ne hq)) (.lst upd_same (rr.ex (Ex.new (fr q h2))))⟩
end
theorem q_mk0 {C : Addr} {sp : Sp} {i : Nat} {tz : TS} {Dn : Ends} {σ : L2.St} {H : Hp} (h : ∀ x dx, H x = none → H dx = none → dx ≠ x → sp [.ref x] (upd (upd H dx (.own x)) x (.ins C dx [])) (fun r H2 => r = .non ∧ tz Dn (σ.set i (some (.ref x))) H2) E0) : tSeq (tAsg (tMake C sp [] E0 tNil) (gName i)) tz Dn σ H := by
  unfold tSeq tAsg
  exact h
theorem tNil_go17 {σ : L2.St} {H : Hp} {Q : List V → Hp → Prop} (h : Q [] H) : tNil σ H Q := h
/-! rows, one by one -/
inductive RGoes : Rd → List RRow → Rd → Prop where
  | nil (st : Rd) : RGoes st [] st
  | cons {st : Rd} {row : RRow} {rows : List RRow} {fin : Rd} : RRow.ok row → RRow.fits st row → st.tk.length ≤ 1000 → st.of.length ≤ 90000 → st.sd.length ≤ 90000 → RGoes (st.app row) rows fin → RGoes st (row :: rows) fin
theorem goes_vr {hd : Hd} {tk : List Tk} {of : List Try} (h1 : tk.length ≤ 1000) (h2 : of.length ≤ 90000) : ∀ (us sd : List Ver), (∀ v ∈ us, v.1 ≤ 999 ∧ v.2.1 ≤ 999) → sd.length + us.length ≤ 90000 → RGoes ⟨some hd, tk, of, sd⟩ (us.map .vr) ⟨some hd, tk, of, sd ++ us⟩
  | [], sd, _, _ => by rw [List.append_nil]; exact .nil _
  | v :: us, sd, hv, hl => by
    rw [List.length_cons] at hl
    have ih := goes_vr (hd := hd) h1 h2 us (sd ++ [v]) (fun x hx => hv x (List.mem_cons_of_mem _ hx)) (by rw [List.length_append]; show sd.length + 1 + us.length ≤ 90000; omega)
    rw [List.append_assoc] at ih
    exact .cons (hv v List.mem_cons_self) rfl h1 h2 (by show sd.length ≤ 90000; omega) ih
theorem goes_tr {hd : Hd} {tk : List Tk} {rows : List RRow} {fin : Rd} (h1 : tk.length ≤ 1000) : ∀ (ts of : List Try), (∀ t ∈ ts, t.1 ≤ 999 ∧ t.2.1 ≤ 999 ∧ t.2.2 ≤ 999) → of.length + ts.length ≤ 90000 → RGoes ⟨some hd, tk, of ++ ts, []⟩ rows fin → RGoes ⟨some hd, tk, of, []⟩ (ts.map .tr ++ rows) fin
  | [], of, _, _, k => by rw [List.append_nil] at k; exact k
  | t :: ts, of, ht, hl, k => by
    rw [List.length_cons] at hl
    have ih := goes_tr (hd := hd) (rows := rows) (fin := fin) h1 ts (of ++ [t]) (fun x hx => ht x (List.mem_cons_of_mem _ hx)) (by rw [List.length_append]; show of.length + 1 + ts.length ≤ 90000; omega) (by rw [List.append_assoc]; exact k)
    exact .cons (ht t List.mem_cons_self) ⟨rfl, rfl⟩ h1 (by show of.length ≤ 90000; omega) (by show 0 ≤ 90000; omega) ih
theorem goes_tk {hd : Hd} {rows : List RRow} {fin : Rd} : ∀ (ks tk : List Tk), (∀ t ∈ ks, RRow.ok (.tk t)) → tk.length + ks.length ≤ 1000 → RGoes ⟨some hd, tk ++ ks, [], []⟩ rows fin → RGoes ⟨some hd, tk, [], []⟩ (ks.map .tk ++ rows) fin
  | [], tk, _, _, k => by rw [List.append_nil] at k; exact k
  | t :: ks, tk, ht, hl, k => by
    rw [List.length_cons] at hl
    have ih := goes_tk (hd := hd) (rows := rows) (fin := fin) ks (tk ++ [t]) (fun x hx => ht x (List.mem_cons_of_mem _ hx)) (by rw [List.length_append]; show tk.length + 1 + ks.length ≤ 1000; omega) (by rw [List.append_assoc]; exact k)
    exact .cons (ht t List.mem_cons_self) ⟨rfl, rfl, rfl⟩ (by show tk.length ≤ 1000; omega) (by show 0 ≤ 90000; omega) (by show 0 ≤ 90000; omega) ih
def hdOf (c : Con) : Hd := (c.rule, c.teams, c.fin, c.frozen)
def rrows (c : Con) (ts : List Try) (vs : List Ver) : List RRow := (.con (hdOf c) :: c.tasks.map .tk) ++ (ts.map .tr ++ vs.map .vr)
theorem rrows_ws (c : Con) (ts : List Try) (vs : List Ver) : (rrows c ts vs).map RRow.ws = rowsW c ts vs := by
  unfold rrows rowsW
  rw [List.map_append, List.map_append, List.map_cons, List.map_map, List.map_map, List.map_map]
  rfl
theorem rrows_go {c : Con} {ts : List Try} {vs : List Ver} (oc : c.Ok) (ot : TriesOk c ts) (ov : VersOk c ts vs) (hl : vs.length ≤ 4000) : RGoes rd0 (rrows c ts vs) ⟨some (hdOf c), c.tasks, ts, vs⟩ := by
  have h1 := oc.teams
  have h2 := oc.fin
  have h3 := oc.frozen
  have h4 := oc.many
  have h5 := ot.len
  refine .cons ⟨by show c.teams ≤ 999; omega, by show c.fin ≤ 999; omega, by show c.frozen ≤ 999; omega⟩ rfl (by show 0 ≤ 1000; omega) (by show 0 ≤ 90000; omega) (by show 0 ≤ 90000; omega) ?_
  refine goes_tk c.tasks [] (fun t ht => ?_) (by show 0 + c.tasks.length ≤ 1000; omega) (goes_tr (by show c.tasks.length ≤ 1000; omega) ts [] (fun t ht => ?_) (by show 0 + ts.length ≤ 90000; omega) (goes_vr (by show c.tasks.length ≤ 1000; omega) (by show ts.length ≤ 90000; omega) vs [] (fun v hv => ?_) (by show 0 + vs.length ≤ 90000; omega)))
  · obtain ⟨k1, k2, k3, k4⟩ := oc.task t ht
    exact ⟨by omega, fun g hg => by have := k4 g hg; omega, by omega⟩
  · have k := ot.ok t ht
    have k1 := k.team
    have k2 := k.task
    have k3 := k.time
    exact ⟨by omega, by omega, by omega⟩
  · have k := ver_small oc ot ov hv
    exact ⟨by omega, by omega⟩
abbrev s_read : Stmt := top 38
abbrev N_read : List Str := ["text", "reader", "row", "line", "contest"]
abbrev P_read : List Str := ["text"]
theorem sc_read : FnScope N_read P_read (defScope s_read) := ⟨rfl, rfl, rfl, by decide +kernel, rfl, by decide +kernel, by decide +kernel⟩

def sp_read (K : PySem.W.Frag) : Sp := fun vs H Q _ => ∃ G M c ts us, vs = [.str (textT c ts us)] ∧ Ex G H ∧ Owns M G H ∧ c.Ok ∧ TriesOk c ts ∧ VersOk c ts us ∧ us.length ≤ 4000 ∧
  ∀ G' M' H' as t vc lo ls xo xs, Ex G G' → Chg G M H [] G' M' H' as → G' t = some (.tup [vc, .ref lo, .ref ls]) → Rp K G' vc c.d → M' lo = some (.lst xo) → RpA K G' xo (ts.map trD) → M' ls = some (.lst xs) → RpA K G' xs (us.map vrD) → lo ∈ as → ls ∈ as → lo ≠ ls → Q (.ref t) H'
theorem ok_read {f : Addr} {fd : FuncData} (F : Fun K "read" "read" s_read f fd) (T : Tx K mg) (d_Reader : Dc P w K mg base 1 "Reader" P_Reader_init (sp_Reader_init K)) (d_Reader_take : Dm P w K mg base 4 "Reader" "take" P_Reader_take (sp_Reader_take K)) (d_need_all : Dk P w K mg base 5 "need_all" P_need_all (sp_need_all K)) : FnOk P w K mg base CX0 6 f fd P_read (sp_read K) := by
  refine F.ok sc_read (fun vs H Q E h => ?_) (fun cdv A outer s H vs Q E hr h => ?_)
  · obtain ⟨G, M, c, ts, us, rfl, e, ow, oc, ot, ov, hl, q⟩ := h
    first | rfl | exact congrArg (· + 1) ra.len | exact congrArg (· + 2) ra.len
  · obtain ⟨G, M, c, ts, us, rfl, e, ow, oc, ot, ov, hl, q⟩ := h
    refine ⟨_, (pss_cons (ps_set (i := 1) sc_read.nd rfl (by first | exact Or.inl rfl | exact Or.inr rfl) (pe_mk0 d_Reader (hr.mono (by decide)) (by rfl)))
    (pss_cons (ps_for PassesOwn.never rfl (pi_enK K rfl (by rfl) T.n_enumerate (pa_cons (pe_splitK (pv 0) pe_str) pa_nil)) (pg_tup rfl (pgs_cons (pg_name (i := 2) sc_read.nd rfl (by first | exact Or.inl rfl | exact Or.inr rfl)) (pgs_cons (pg_name (i := 3) sc_read.nd rfl (by first | exact Or.inl rfl | exact Or.inr rfl)) pgs_nil))) (pss_one (ps_if (pt_not (pt_val (pe_me d_Reader_take (hr.mono (by decide)) (pv 1) (pa_cons (pe_splitK (pv 3) pe_str) pa_nil)))) (pss_one ps_never) pss_nil)))
    (pss_cons (ps_set (i := 4) sc_read.nd rfl (by first | exact Or.inl rfl | exact Or.inr rfl) (pe_op (op_addK K rfl) (pe_fldK K rfl (pv 1) rfl) (pe_tup (pa_cons (pe_fldK K rfl (pv 1) rfl) pa_nil))))
    (pss_cons (ps_expr (pe_fn d_need_all (hr.mono (by decide)) (by rfl) (pa_cons (pv 4) (pa_cons (pe_fldK K rfl (pv 1) rfl) (pa_cons (pe_fldK K rfl (pv 1) rfl) pa_nil)))))
    (pss_one (ps_ret (pe_tup (pa_cons (pv 4) (pa_cons (pe_fldK K rfl (pv 1) rfl) (pa_cons (pe_fldK K rfl (pv 1) rfl) pa_nil)))))))))), ?_⟩
    try dsimp only [cxOf, Cx.nox, Cx.wish]
    have c0 : Chg G M H [] G M H [] := Chg.refl e ow
    have C := rdC T
    show tSeq (tAsg (tMake (cA K "Reader") (sp_Reader_init K) [] E0 tNil) (gName 1)) _ _ [some (.str (textT c ts us)), none, none, none, none] H
    refine q_mk0 fun x dx hx hdx ne => ?_
    refine ⟨G, M, H, x, dx, rfl, rfl, hx, hdx, ne, c0.ii, c0.o, fun G2 M2 H2 r ho e2 c2 a2 => ⟨rfl, ?_⟩⟩
    subst ho
    show tSeq _ _ _ [some (.str (textT c ts us)), some (.ref r.o), none, none, none] H2
    have htl := textT_len oc ot ov (by omega)
    have hrl := rowsW_len (vs := us) oc ot (by omega)
    have hsp : Txt.split (textT c ts us) tNl = (rowsW c ts us).map rowT := split_text (by unfold rowsW; simp) (rowsW_ok oc ot ov)
    refine q_for (K := K) (n := (rowsW c ts us).length) (js := [2, 3]) (E := fun i => match (rowsW c ts us)[i]? with | some ws => [.int i, .str (rowT ws)] | none => []) c2.s
      (i_enL' (ds := (rowsW c ts us).map fun ws => D.str (rowT ws)) (List.length_map _) (EvD.eq (EvF.toD (f_split (e_var rfl (.str _)) e_str (by decide +kernel) (by rw [sizeLine_eq]; omega))) (by rw [hsp, List.map_map]; rfl)))
      (fun i hi => by rw [nth_map (List.getElem?_eq_getElem hi), List.getElem?_eq_getElem hi]; exact g_two)
      (fun i σ' G' H' => ∃ M' st w2 w3 w4, Chg G M H [] G' M' H' r.all ∧ RdAt K G' M' r st ∧ RGoes st ((rrows c ts us).drop i) ⟨some (hdOf c), c.tasks, ts, us⟩ ∧ σ' = [some (.str (textT c ts us)), some (.ref r.o), w2, w3, w4])
      (fun G3 H3 s3 => ⟨M2, rd0, none, none, none, c2.then s3, a2.exx s3.g, rrows_go oc ot ov hl, rfl⟩) ?_ ?_
    · rintro Gw ew i hi σ' G' H' S' ew' ⟨M', st, w2, w3, w4, c', a', go, rfl⟩ G3 H3 vs s3 ru
      have c3 := c'.then s3
      have a3 := a'.exx s3.g
      have hwi : (rowsW c ts us)[i]? = some (rowsW c ts us)[i] := List.getElem?_eq_getElem hi
      have hwm := List.getElem_mem hi
      generalize (rowsW c ts us)[i] = ws at hwi hwm
      have ru : RpA K G3 vs (match (rowsW c ts us)[i]? with | some ws => [.int i, .str (rowT ws)] | none => []) := ru
      rw [hwi] at ru
      obtain ⟨y1, y2, rfl, ry1, ry2⟩ := ru.two
      have z1 := ry1.int_of
      have z2 := ry2.str_of
      subst z1 z2
      have hok := rowsW_ok oc ot ov ws hwm
      have hlen := rowT_len hok
      have hri : ∃ row, (rrows c ts us)[i]? = some row ∧ row.ws = ws := by
        rw [← rrows_ws, List.getElem?_map] at hwi
        cases h : (rrows c ts us)[i]? with
        | none => rw [h] at hwi; cases hwi
        | some row => rw [h] at hwi; exact ⟨row, rfl, Option.some.inj hwi⟩
      obtain ⟨row, hri, hws⟩ := hri
      have hdrop : (rrows c ts us).drop i = row :: (rrows c ts us).drop (i + 1) := by
        have hlt := (List.getElem?_eq_some_iff.mp hri).1
        rw [List.drop_eq_getElem_cons hlt]
        congr 1
        exact Option.some.inj ((List.getElem?_eq_getElem hlt).symm.trans hri)
      rw [hdrop] at go
      cases go with
      | cons k1 k2 k3 k4 k5 k6 =>
        obtain ⟨vh, vt, xo, xs, h1, _⟩ := a3.ex
        show tIfS (tNot (tB (tMeth (cA K "Reader") "take" (sp_Reader_take K) [] E0 (tVar 1) (tCons (tM1 rSplit (tVar 3) (tC (.str tSp))) tNil)))) _ tNext _ [some (.str (textT c ts us)), some (.ref r.o), some (.int (i : Nat)), some (.str (rowT ws)), w4] H3
        refine m_callF1 (K := K) (ds := row.ws.map D.str) c3 (o_name rfl) h1 (by rfl) (EvF.eq (f_split (e_var rfl (.str _)) e_str (by decide +kernel) (by rw [sizeLine_eq]; omega)) (by rw [split_row hok, hws])) (tupOA_map (fun _ => rfl) _) _ fun v G4 H4 e4 c4 rv => ?_
        refine ⟨G4, M', r, st, row, v, rfl, c4.ii, c4.o, a3.exx e4, rv, k1, k2, k3, k4, k5, fun G5 M5 H5 e5 c5 a5 => ⟨true, rfl, ?_⟩⟩
        exact ⟨G5, (c4.trans c5).s, ew'.trans (s3.g.trans (e4.trans e5)), M5, _, _, _, _, c4.trans c5, a5, k6, rfl⟩
    · rintro σ' G' H' S' ew' ⟨M', st, w2, w3, w4, c', a', go, rfl⟩
      rw [List.drop_eq_nil_of_le (by rw [← rrows_ws, List.length_map]; exact Nat.le_refl _)] at go
      cases go
      have hot := ot.len
      refine q_asgC' (K := K) (d := c.d) c' (e_catA (ds := [.str c.rule, .int c.teams, .int c.fin, .int c.frozen]) (es := [.tup (c.tasks.map tkD)]) (a'.fhS (hd := hdOf c) C c'.o rfl (o_name rfl)) (e_tup1 (a'.ft C c'.o (o_name rfl))) (by show 4 + 1 ≤ 1000000; decide)) (conT17 c) fun v4 G3 H3 e3 c3 r4 => ?_
      have a3 := a'.exx e3
      refine q_dropC (K := K) (d := .non) c3 (e_call (a_cons (e_var rfl (r4.ex c3.o.gg)) (a_cons (a3.fo C c3.o (o_name rfl)) (a_one (a3.fs C c3.o (o_name rfl))))) ⟨c, ts, us, rfl, oc, ot, ov, by omega, rfl⟩) rfl fun G4 H4 e4 c4 => ?_
      have a4 := a3.exx e4
      have r4 := r4.ex e4
      refine ⟨_, rfl, ?_⟩
      refine EvO.own (a4.oo C (o_name rfl)) c4 _ fun G5 H5 e5 c5 => ?_
      have a5 := a4.exx e5
      refine EvO.own (a5.os C (o_name rfl)) c5 _ fun G6 H6 e6 c6 => ?_
      have a6 := a5.exx e6
      refine tNil_go17 ?_
      refine ⟨by show 3 ≤ sizeLine; rw [sizeLine_eq]; decide, fun p hp => ?_⟩
      have gp := Step.back c6.ii hp
      have s7 := Step.new (o := .tup [v4, .ref r.lo, .ref r.ls]) c6.ii hp
      have c7 := c6.then s7
      obtain ⟨vh, vt, xo, xs, h1, p1, p2, h2, p3, h3, p4, nl⟩ := (a6.exx s7.g).ex
      exact q _ M' _ r.all p v4 r.lo r.ls xo xs (e2.trans (ew'.trans (e3.trans (e4.trans (e5.trans (e6.trans s7.g)))))) c7 upd_same (((r4.ex e5).ex e6).ex s7.g) h2 p3 h3 p4 (by simp [RdA.all]) (by simp [RdA.all]) nl

end

section
variable [Tbs] {P : Program} {w : World} {K : PySem.W.Frag} {mg : Str → Option Value} {base : Heap}
theorem fit_flat {n : Nat} {ds : List D} (hl : ds.length ≤ 1000000) (h : ∀ d ∈ ds, d.flat = true) : Fit (n + 2) (.tup ds) := .tup hl fun d hd => by
  have := h d hd
  cases d <;> first | exact .non | exact .bl _ | exact .int _ | exact .str _ | cases this
theorem fit_case {c : Con} {ts : List Try} {vs : List Ver} (oc : c.Ok) (ot : TriesOk c ts) (hl : vs.length ≤ 4000) : Fit 8 (.tup [c.d, trsD ts, vrsD vs]) := by
  have h1 := ot.len
  have h2 := oc.many
  refine .tup (by show 3 ≤ 1000000; decide) fun d hd => ?_
  simp only [List.mem_cons, List.not_mem_nil, or_false] at hd
  rcases hd with rfl | rfl | rfl
  · refine .tup (by show 5 ≤ 1000000; decide) fun d hd => ?_
    simp only [List.mem_cons, List.not_mem_nil, or_false] at hd
    rcases hd with rfl | rfl | rfl | rfl | rfl
    · exact .str _
    · exact .int _
    · exact .int _
    · exact .int _
    · refine .tup (by rw [List.length_map]; omega) fun d hd => ?_
      obtain ⟨t, ht, rfl⟩ := List.mem_map.mp hd
      obtain ⟨k1, k2, k3, k4⟩ := oc.task t ht
      refine .tup (by show 2 ≤ 1000000; decide) fun d hd => ?_
      simp only [List.mem_cons, List.not_mem_nil, or_false] at hd
      rcases hd with rfl | rfl
      · refine .tup (by rw [List.length_map]; omega) fun d hd => ?_
        obtain ⟨g, _, rfl⟩ := List.mem_map.mp hd
        exact fit_flat (by show 2 ≤ 1000000; decide) fun d hd => by
          simp only [List.mem_cons, List.not_mem_nil, or_false] at hd
          rcases hd with rfl | rfl <;> rfl
      · exact .int _
  · refine .lst (by rw [List.length_map]; omega) fun d hd => ?_
    obtain ⟨t, ht, rfl⟩ := List.mem_map.mp hd
    exact fit_flat (by show 3 ≤ 1000000; decide) fun d hd => by
      simp only [List.mem_cons, List.not_mem_nil, or_false] at hd
      rcases hd with rfl | rfl | rfl <;> rfl
  · refine .lst (by rw [List.length_map]; omega) fun d hd => ?_
    obtain ⟨t, ht, rfl⟩ := List.mem_map.mp hd
    exact fit_flat (by show 3 ≤ 1000000; decide) fun d hd => by
      simp only [List.mem_cons, List.not_mem_nil, or_false] at hd
      rcases hd with rfl | rfl | rfl <;> rfl
section
variable {G : Hp} {σ : L2.St} {ta tb : TE}
theorem o_ixT {i : Nat} {xs : List V} {a l : Addr} (h : EvO ta σ G a) (hx : G a = some (.tup xs)) (hb : EvD K tb σ G (.int i)) (hl : xs[i]? = some (.ref l)) : EvO (tOp (rIx K) ta tb) σ G l := fun H e Q q =>
  h H e _ fun G1 H1 s1 => (hb.mono s1.g) H1 s1.i _ fun v G2 H2 s2 r2 =>
    .inr (.inl ⟨a, xs, (i : Int), _, rfl, r2.int_of, .of (s2.i _ _ ((s1.g.trans s2.g) _ _ hx)), atI_nat hl, q G2 H2 (s1.trans s2)⟩)
theorem s_clear0 {M M0 G0 H0 H : Hp} {as as0 : List Addr} {l : Addr} {xs : List V} {Dn : Ends} (c : Chg G0 M0 H0 as0 G M H as) (hl : l ∈ as) (hm : M l = some (.lst xs)) (ho : EvO ta σ (over G M) l)
    (k : ∀ G1 H1, Ex G G1 → Chg G0 M0 H0 as0 G1 (upd M l (.lst [])) H1 as → Dn.nx σ H1) : tDrop (tBM0 K "list" rClear ta) Dn σ H :=
  ho H (c.o.ex c.ii) _ fun G1 H1 s1 => ⟨Or.inl ⟨rfl, xs, .of (s1.i _ _ (s1.g _ _ (over_some hm)))⟩, by
    obtain ⟨G3, s3, o3, tr, _, gM⟩ := s1.thawM c.o
    exact ⟨l, xs, rfl, rfl, o3.h _ _ hm, k G3 _ s3.g ((c.then s3).upd hl hm)⟩⟩
end
theorem task_len {c : Con} (oc : c.Ok) {t : Tk} (ht : t ∈ c.tasks) : (rowT (tkW t)).length ≤ 56 := rowT_len (tkW_ok oc ht)
abbrev tStrI (te : TE) : TE := tCB (fun xs H Q => ∃ i, xs = [.int i] ∧ i.natAbs.log2 < 1920 ∧ Q (.str (PySem.Str.ofString (toString i))) H) (tCons te tNil)
abbrev tEm : Str := PySem.Str.ofString ""
abbrev tTask : Str := PySem.Str.ofString "task "
abbrev tVerd : Str := PySem.Str.ofString "verdict "
theorem tTask_len : tTask.length = 5 := by decide +kernel
theorem tVerd_len : tVerd.length = 8 := by decide +kernel
theorem tSp_len : tSp.length = 1 := by decide +kernel
theorem tCo_len : tCo.length = 1 := by decide +kernel
theorem tEm_len : tEm.length = 0 := by decide +kernel
theorem tEm_is : tEm = Str.empty := TL.ext_tl (by decide +kernel)
abbrev sPl : Str := PySem.Str.ofString " +"
abbrev sMi : Str := PySem.Str.ofString " -"
theorem sPM_len (b : Bool) : (if b = true then sPl else sMi).length = 2 := by cases b <;> decide +kernel
section
variable {G : Hp} {s0 s1 s2 s3 s4 s5 s6 s7 s8 s9 s10 s11 s12 s13 s14 s15 s16 s17 s18 s19 : Option V}
def grW (g : Nat × Nat) : Str := tSp ++ numS g.1 ++ tCo ++ numS g.2
theorem grW_len {g : Nat × Nat} (h1 : g.1 ≤ 999) (h2 : g.2 ≤ 999) : (grW g).length ≤ 8 := by
  have k1 := numS_len h1
  have k2 := numS_len h2
  unfold grW
  rw [app_len, app_len, app_len, tSp_len, tCo_len]
  omega
theorem e_taskLaw {t : Tk} {vg vd : V} (h1 : t.2 ≤ 999) (h2 : t.1.length ≤ 4) (h3 : ∀ g ∈ t.1, g.1 ≤ 999 ∧ g.2 ≤ 999) (rg : Rp K G vg (.tup (t.1.map gD))) (rd : Rp K G vd (.int t.2)) :
    EvD K (tOp (rAddA K) (tOp (rAddA K) (tC (.str tTask)) (tStrI (tVar 9))) (tM1 (rJoin K) (tC (.str tEm)) (tLc (iSeq K (tVar 8)) (gTup K 2 (gCons (gName 16) (gCons (gName 17) gNil))) tYes (tOp (rAddA K) (tOp (rAddA K) (tOp (rAddA K) (tC (.str tSp)) (tStrI (tVar 16))) (tC (.str tCo))) (tStrI (tVar 17))) [16, 17]))) [s0, s1, s2, s3, s4, s5, s6, s7, some vg, some vd, s10, s11, s12, s13, s14, s15, s16, s17, s18, s19] G (.str (rowT (tkW t))) := by
  have hd3 := numS_len h1
  have hj := join_len (y := tEm) (B := 8) (ws := t.1.map grW) (fun w hw => by
    obtain ⟨g, hg, rfl⟩ := List.mem_map.mp hw
    exact grW_len (h3 g hg).1 (h3 g hg).2)
  have hs := sum_len (B := 8) (ws := t.1.map grW) (fun w hw => by
    obtain ⟨g, hg, rfl⟩ := List.mem_map.mp hw
    exact grW_len (h3 g hg).1 (h3 g hg).2)
  rw [List.length_map] at hj hs
  rw [tEm_len] at hj
  have hl : tTask ++ numS t.2 ++ Str.join tEm (t.1.map grW) = rowT (tkW t) := by
    rw [tEm_is]
    exact law_task t
  have hlc : EvD K (tLc (iSeq K (tVar 8)) (gTup K 2 (gCons (gName 16) (gCons (gName 17) gNil))) tYes (tOp (rAddA K) (tOp (rAddA K) (tOp (rAddA K) (tC (.str tSp)) (tStrI (tVar 16))) (tC (.str tCo))) (tStrI (tVar 17))) [16, 17]) [s0, s1, s2, s3, s4, s5, s6, s7, some vg, some vd, s10, s11, s12, s13, s14, s15, s16, s17, s18, s19] G (.lst ((t.1.map grW).map D.str)) := by
    refine EvD.eq (EvF.toD (f_lcm (xs := t.1) (Y := nth (t.1.map gD)) (js := [16, 17]) (fun _ g => [.int g.1, .int g.2]) (fun _ => true) (fun g => .str (grW g)) (i_seqT' (List.length_map _) (e_var rfl rg)) (fun k x hx => by rw [nth_map hx]; exact g_two) (by omega) (fun _ _ _ => rfl) (fun us _ => wipe_set (by decide)) (fun _ _ _ _ _ _ _ => b_yes) (fun k x hx _ Gb eb us ru => ?_))) (by rw [List.filter_eq_self.mpr (fun _ _ => rfl), List.map_map]; rfl)
    obtain ⟨z1, z2, rfl, rz1, rz2⟩ := ru.two
    obtain ⟨q1, q2⟩ := h3 x (List.mem_of_getElem? hx)
    have k1 := numS_len q1
    have k2 := numS_len q2
    exact e_addSA (p := tSp ++ numS x.1 ++ tCo) (q := numS x.2) (e_addSA (p := tSp ++ numS x.1) (q := tCo) (e_addSA (p := tSp) (q := numS x.1) e_str (e_strN (e_var rfl rz1) q1) (by rw [tSp_len, sizeLine_eq]; omega)) e_str (by rw [app_len, tSp_len, tCo_len, sizeLine_eq]; omega)) (e_strN (e_var rfl rz2) q2) (by rw [app_len, app_len, tSp_len, tCo_len, sizeLine_eq]; omega)
  have hjj := e_join (K := K) (a := tEm) (ys := t.1.map grW) e_str hlc (by rw [List.length_map, tEm_len]; omega)
  have hp := e_addSA (K := K) (p := tTask) (q := numS t.2) e_str (e_strN (K := K) (te := tVar 9) (σ := [s0, s1, s2, s3, s4, s5, s6, s7, some vg, some vd, s10, s11, s12, s13, s14, s15, s16, s17, s18, s19]) (G := G) (e_var rfl rd) h1) (by rw [tTask_len, sizeLine_eq]; omega)
  exact EvD.eq (e_addSA hp hjj (by rw [app_len, tTask_len, sizeLine_eq]; omega)) (congrArg D.str hl)
theorem e_tryLaw {t : Try} {vt : V} (h1 : t.1 ≤ 999) (h2 : t.2.1 ≤ 999) (h3 : t.2.2 ≤ 999) (rt : Rp K G vt (trD t)) (ok : ROk (trW t)) :
    EvD K (tM1 (rJoin K) (tC (.str tSp)) (tOp (rAddA K) (tLst (tCons (tC (.str wTry)) tNil)) (tLc (iSeq K (tVar 19)) (gName 18) tYes (tStrI (tVar 18)) [18]))) [s0, s1, s2, s3, s4, s5, s6, s7, s8, s9, s10, s11, s12, s13, s14, s15, s16, s17, s18, some vt] G (.str (rowT (trW t))) := by
  have hlc : EvD K (tLc (iSeq K (tVar 19)) (gName 18) tYes (tStrI (tVar 18)) [18]) [s0, s1, s2, s3, s4, s5, s6, s7, s8, s9, s10, s11, s12, s13, s14, s15, s16, s17, s18, some vt] G (.lst ([t.1, t.2.1, t.2.2].map fun n => D.str (numS n))) := by
    refine EvD.eq (EvF.toD (f_lcm (xs := [t.1, t.2.1, t.2.2]) (Y := nth [.int t.1, .int t.2.1, .int t.2.2]) (js := [18]) (fun _ n => [.int (n : Nat)]) (fun _ => true) (fun n => .str (numS n)) (i_seqT' (n := 3) rfl (e_var rfl rt)) (fun k y hy => by
            have hj : nth [D.int (t.1 : Nat), .int (t.2.1 : Nat), .int (t.2.2 : Nat)] k = .int (y : Nat) := nth_map (f := fun n : Nat => D.int (n : Nat)) (xs := [t.1, t.2.1, t.2.2]) hy
            rw [hj]
            exact g_name) (by show 3 ≤ _; decide) (fun _ _ _ => rfl) (fun us _ => wipe_set (by decide)) (fun _ _ _ _ _ _ _ => b_yes) (fun k y hy _ Gc ec us ru => ?_))) (by rw [List.filter_eq_self.mpr (fun _ _ => rfl)])
    obtain ⟨z1, rfl, rz1⟩ := ru.one
    have hy := List.mem_of_getElem? hy
    simp only [List.mem_cons, List.not_mem_nil, or_false] at hy
    exact e_strN (e_var rfl rz1) (by omega)
  exact e_join (a := tSp) (ys := trW t) e_str (EvD.eq (EvF.toD (f_cat (ds := [.str wTry]) (EvF.toD (f_lst (a_one e_str) (by show 1 ≤ 100000; decide))) hlc (by show 1 + 3 ≤ 1000000; decide))) rfl) (row_hz ok)
theorem e_verLaw {x : Ver} {a1 a2 a3 : V} (h1 : x.1 ≤ 999) (h2 : x.2.1 ≤ 999) (r1 : Rp K G a1 (.int x.1)) (r2 : Rp K G a2 (.int x.2.1)) (r3 : Rp K G a3 (.bl x.2.2)) :
    EvD K (tOp (rAddA K) (tOp (rAddA K) (tOp (rAddA K) (tOp (rAddA K) (tC (.str tVerd)) (tStrI (tVar 10))) (tC (.str tSp))) (tStrI (tVar 11))) (tOp (rIx K) (tLst (tCons (tC (.str sMi)) (tCons (tC (.str sPl)) tNil))) (tCB (fun xs H Q => (∃ i, xs = [.int i] ∧ Q (.int i) H) ∨ ∃ k, xs = [.bl k] ∧ Q (.int (if k then 1 else 0)) H) (tCons (tVar 12) tNil)))) [s0, s1, s2, s3, s4, s5, s6, s7, s8, s9, some a1, some a2, some a3, s13, s14, s15, s16, s17, s18, s19] G (.str (rowT (vrW x))) := by
  have d1 := numS_len h1
  have d2 := numS_len h2
  have hp := e_addSA (K := K) (p := tVerd) (q := numS x.1) e_str (e_strN (K := K) (te := tVar 10) (σ := [s0, s1, s2, s3, s4, s5, s6, s7, s8, s9, some a1, some a2, some a3, s13, s14, s15, s16, s17, s18, s19]) (G := G) (e_var rfl r1) h1) (by rw [tVerd_len, sizeLine_eq]; omega)
  have hp2 := e_addSA (K := K) (q := tSp) hp e_str (by rw [app_len, tVerd_len, tSp_len, sizeLine_eq]; omega)
  have hp3 := e_addSA (K := K) (q := numS x.2.1) hp2 (e_strN (te := tVar 11) (e_var rfl r2) h2) (by rw [app_len, app_len, tVerd_len, tSp_len, sizeLine_eq]; omega)
  have hix : EvD K (tOp (rIx K) (tLst (tCons (tC (.str sMi)) (tCons (tC (.str sPl)) tNil))) (tCB (fun xs H Q => (∃ i, xs = [.int i] ∧ Q (.int i) H) ∨ ∃ k, xs = [.bl k] ∧ Q (.int (if k then 1 else 0)) H) (tCons (tVar 12) tNil))) [s0, s1, s2, s3, s4, s5, s6, s7, s8, s9, some a1, some a2, some a3, s13, s14, s15, s16, s17, s18, s19] G (.str (if x.2.2 = true then sPl else sMi)) :=
    e_ix (d1 := .lst [.str sMi, .str sPl]) (i := if x.2.2 = true then 1 else 0) (EvF.toD (f_lst (a_cons e_str (a_one e_str)) (by show 2 ≤ 100000; decide))) (e_int1b (e_var rfl r3)) (by cases x.2.2 <;> rfl)
  exact EvD.eq (e_addSA hp3 hix (by rw [app_len, app_len, app_len, sPM_len, tVerd_len, tSp_len, sizeLine_eq]; omega)) (congrArg D.str (law_ver x))
end

end

section
variable [Tbs] {P : Program} {w : World} {K : PySem.W.Frag} {mg : Str → Option Value} {base : Heap}
abbrev s_law : Stmt := top 50
abbrev N_law : List Str := ["_law_script", "_law_d", "_law_turn", "_law_contest_here", "_law_tries_here", "_law_truth_here", "_law_verdicts", "_law_rows", "_law_groups", "_law_due", "_law_number", "_law_trial", "_law_passed", "_law_text", "_law_again", "_law_found", "_law_many", "_law_points", "_law_part", "_law_one"]
abbrev P_law : List Str := ["_law_script"]
theorem sc_law : FnScope N_law P_law (defScope s_law) := ⟨rfl, rfl, rfl, by decide +kernel, rfl, by decide +kernel, by decide +kernel⟩

theorem ok_law {f : Addr} {fd : FuncData} (F : Fun K "law" "law" s_law f fd) (T : Tx K mg) (d__law_alike : Dk P w K mg base 8 "_law_alike" P__law_alike (sp__law_alike 8 K)) (d__law_case : Dk P w K mg base 3 "_law_case" P__law_case (sp__law_case K)) (d__law_dice : Dk P w K mg base 1 "_law_dice" P__law_dice (sp__law_dice K)) (d__law_off : Dk P w K mg base 1 "_law_off" P__law_off (sp__law_off K)) (d__law_some : Dk P w K mg base 3 "_law_some" P__law_some (sp__law_some K)) (d_read : Dk P w K mg base 6 "read" P_read (sp_read K)) (d_written : Dk P w K mg base 6 "written" P_written (sp_written K)) : FnOk P w K mg base CX0 9 f fd P_law (sp_law K) := by
  refine F.ok sc_law (fun vs H Q E h => ?_) (fun cdv A outer s H vs Q E hr h => ?_)
  · obtain ⟨a, ns, rfl, _⟩ := h
    rfl
  · obtain ⟨a, ns, rfl, hS, hlen, k⟩ := h
    refine ⟨_, (pss_cons (ps_set (i := 1) sc_law.nd rfl (by first | exact Or.inl rfl | exact Or.inr rfl) (pe_fn d__law_dice (hr.mono (by decide)) (by rfl) (pa_cons (pv 0) (pa_cons pe_int pa_nil))))
    (pss_cons (ps_for PassesOwn.never rfl (pi_range1 (by rfl) T.n_range (pa_cons pe_int pa_nil)) (pg_name (i := 2) sc_law.nd rfl (by first | exact Or.inl rfl | exact Or.inr rfl)) (pss_cons (ps_asg (pe_fn d__law_case (hr.mono (by decide)) (by rfl) (pa_cons (pv 1) (pa_cons (pe_lst (pa_cons pe_str (pa_cons pe_str (pa_cons pe_str pa_nil)))) (pa_cons pe_int pa_nil)))) (pg_tup rfl (pgs_cons (pg_name (i := 3) sc_law.nd rfl (by first | exact Or.inl rfl | exact Or.inr rfl)) (pgs_cons (pg_name (i := 4) sc_law.nd rfl (by first | exact Or.inl rfl | exact Or.inr rfl)) (pgs_cons (pg_name (i := 5) sc_law.nd rfl (by first | exact Or.inl rfl | exact Or.inr rfl)) pgs_nil)))))
    (pss_cons (ps_set (i := 6) sc_law.nd rfl (by first | exact Or.inl rfl | exact Or.inr rfl) (pe_fn d__law_some (hr.mono (by decide)) (by rfl) (pa_cons (pv 1) (pa_cons (pv 5) (pa_cons (pe_ix (ix_seqK K rfl) (pe_lst (pa_cons pe_int (pa_cons pe_int pa_nil))) (pe_fn d__law_off (hr.mono (by decide)) (by rfl) (pa_cons (pv 1) (pa_cons pe_int pa_nil))) (fun _ _ => rfl)) pa_nil)))))
    (pss_cons (ps_set (i := 7) sc_law.nd rfl (by first | exact Or.inl rfl | exact Or.inr rfl) (pe_lst (pa_cons (pe_joinK K rfl pe_str (pe_lst (pa_cons pe_str (pa_cons (pe_ix (ix_seqK K rfl) (pv 3) pe_int (fun _ _ => rfl)) (pa_cons (pe_callTy call_str_int (by rfl) T.n_str (by decide +kernel) (pa_cons (pe_ix (ix_seqK K rfl) (pv 3) pe_int (fun _ _ => rfl)) pa_nil)) (pa_cons (pe_callTy call_str_int (by rfl) T.n_str (by decide +kernel) (pa_cons (pe_ix (ix_seqK K rfl) (pv 3) pe_int (fun _ _ => rfl)) pa_nil)) (pa_cons (pe_callTy call_str_int (by rfl) T.n_str (by decide +kernel) (pa_cons (pe_ix (ix_seqK K rfl) (pv 3) pe_int (fun _ _ => rfl)) pa_nil)) pa_nil))))))) pa_nil)))
    (pss_cons (ps_for PassesOwn.never rfl (pi_seqK K rfl (pe_ix (ix_seqK K rfl) (pv 3) pe_int (fun _ _ => rfl))) (pg_tup rfl (pgs_cons (pg_name (i := 8) sc_law.nd rfl (by first | exact Or.inl rfl | exact Or.inr rfl)) (pgs_cons (pg_name (i := 9) sc_law.nd rfl (by first | exact Or.inl rfl | exact Or.inr rfl)) pgs_nil))) (pss_one (ps_expr (pe_bm PySem.F.plainAttrs_list PySem.F.slot_list_append PySem.F.type_list_append mt_append (pv 7) (pa_cons (pe_op (op_addK K rfl) (pe_op (op_addK K rfl) pe_str (pe_callTy call_str_int (by rfl) T.n_str (by decide +kernel) (pa_cons (pv 9) pa_nil))) (pe_joinK K rfl pe_str (pe_lc (own := [("_law_many", 16), ("_law_points", 17)]) (g := gTup K 2 (gCons (gName 16) (gCons (gName 17) gNil))) (tt := tYes) rfl sc_law.nd (pi_seqK K rfl (pv 8)) (blkOk_by (own := [("_law_many", 16), ("_law_points", 17)]) (N := N_law) (sc := defScope s_law) (by decide +kernel)) (fun _ _ _ _ _ => (pg_tup rfl (pgs_cons (pg_name (i := 16) sc_law.nd rfl (by first | exact Or.inl rfl | exact Or.inr rfl)) (pgs_cons (pg_name (i := 17) sc_law.nd rfl (by first | exact Or.inl rfl | exact Or.inr rfl)) pgs_nil)))) (fun _ _ _ _ _ => pts_nil) (fun _ _ _ _ _ => (pe_op (op_addK K rfl) (pe_op (op_addK K rfl) (pe_op (op_addK K rfl) pe_str (pe_callTy call_str_int (by rfl) T.n_str (by decide +kernel) (pa_cons (pv 16) pa_nil))) pe_str) (pe_callTy call_str_int (by rfl) T.n_str (by decide +kernel) (pa_cons (pv 17) pa_nil))))))) pa_nil)))))
    (pss_cons (ps_set (i := 7) sc_law.nd rfl (by first | exact Or.inl rfl | exact Or.inr rfl) (pe_op (op_addK K rfl) (pv 7) (pe_lc (own := [("_law_one", 19)]) (g := gName 19) (tt := tYes) rfl sc_law.nd (pi_seqK K rfl (pv 4)) (blkOk_by (own := [("_law_one", 19)]) (N := N_law) (sc := defScope s_law) (by decide +kernel)) (fun _ _ _ _ _ => (pg_name (i := 19) sc_law.nd rfl (by first | exact Or.inl rfl | exact Or.inr rfl))) (fun _ _ _ _ _ => pts_nil) (fun _ _ _ _ _ => (pe_joinK K rfl pe_str (pe_op (op_addK K rfl) (pe_lst (pa_cons pe_str pa_nil)) (pe_lc (own := [("_law_part", 18)]) (g := gName 18) (tt := tYes) rfl sc_law.nd (pi_seqK K rfl (pv 19)) (blkOk_in (own := [("_law_part", 18)]) (N := N_law) (by decide +kernel)) (fun _ _ _ _ _ => (pg_name (i := 18) sc_law.nd rfl (by first | exact Or.inl rfl | exact Or.inr rfl))) (fun _ _ _ _ _ => pts_nil) (fun _ _ _ _ _ => (pe_callTy call_str_int (by rfl) T.n_str (by decide +kernel) (pa_cons (pv 18) pa_nil))))))))))
    (pss_cons (ps_for PassesOwn.never rfl (pi_seqK K rfl (pv 6)) (pg_tup rfl (pgs_cons (pg_name (i := 10) sc_law.nd rfl (by first | exact Or.inl rfl | exact Or.inr rfl)) (pgs_cons (pg_name (i := 11) sc_law.nd rfl (by first | exact Or.inl rfl | exact Or.inr rfl)) (pgs_cons (pg_name (i := 12) sc_law.nd rfl (by first | exact Or.inl rfl | exact Or.inr rfl)) pgs_nil)))) (pss_one (ps_expr (pe_bm PySem.F.plainAttrs_list PySem.F.slot_list_append PySem.F.type_list_append mt_append (pv 7) (pa_cons (pe_op (op_addK K rfl) (pe_op (op_addK K rfl) (pe_op (op_addK K rfl) (pe_op (op_addK K rfl) pe_str (pe_callTy call_str_int (by rfl) T.n_str (by decide +kernel) (pa_cons (pv 10) pa_nil))) pe_str) (pe_callTy call_str_int (by rfl) T.n_str (by decide +kernel) (pa_cons (pv 11) pa_nil))) (pe_ix (ix_seqK K rfl) (pe_lst (pa_cons pe_str (pa_cons pe_str pa_nil))) (pe_callTy call_int1 (by rfl) T.n_int (by decide +kernel) (pa_cons (pv 12) pa_nil)) (fun _ _ => rfl))) pa_nil)))))
    (pss_cons (ps_set (i := 13) sc_law.nd rfl (by first | exact Or.inl rfl | exact Or.inr rfl) (pe_joinK K rfl pe_str (pv 7)))
    (pss_one (ps_for PassesOwn.never rfl (pi_range1 (by rfl) T.n_range (pa_cons pe_int pa_nil)) (pg_name (i := 14) sc_law.nd rfl (by first | exact Or.inl rfl | exact Or.inr rfl)) (pss_cons (ps_set (i := 15) sc_law.nd rfl (by first | exact Or.inl rfl | exact Or.inr rfl) (pe_fn d_read (hr.mono (by decide)) (by rfl) (pa_cons (pv 13) pa_nil)))
    (pss_cons (ps_if (pt_not (pt_val (pe_fn d__law_alike (hr.mono (by decide)) (by rfl) (pa_cons (pe_fn d_written (hr.mono (by decide)) (by rfl) (pa_cons (pv 3) (pa_cons (pv 4) (pa_cons (pv 6) pa_nil)))) (pa_cons (pv 13) pa_nil))))) (pss_one (ps_ret pe_bl)) pss_nil)
    (pss_cons (ps_if (pt_not (pt_val (pe_fn d__law_alike (hr.mono (by decide)) (by rfl) (pa_cons (pv 15) (pa_cons (pe_tup (pa_cons (pv 3) (pa_cons (pv 4) (pa_cons (pv 6) pa_nil)))) pa_nil))))) (pss_one (ps_ret pe_bl)) pss_nil)
    (pss_cons (ps_expr (pe_bm PySem.F.plainAttrs_list PySem.F.slot_list_append PySem.F.type_list_append mt_append (pe_ix (ix_seqK K rfl) (pv 15) pe_int (fun _ _ => rfl)) (pa_cons (pe_tup pa_nil) pa_nil)))
    (pss_one (ps_expr (pe_bm0 PySem.F.plainAttrs_list PySem.F.slot_list_clear PySem.F.type_list_clear mt_clear (pe_ix (ix_seqK K rfl) (pv 15) pe_int (fun _ _ => rfl)))))))))))))))))))
    (pss_one (ps_ret pe_bl)))), ?_⟩
    try dsimp only [cxOf, Cx.nox, Cx.wish]
    refine ⟨_, rfl, a, ns, rfl, hS, hlen, fun p ms H1 hp0 hex hpx dok => ?_⟩
    have S1 : Sd p H H1 H H1 := Sd.refl hex hp0 ⟨ms, hpx, dok⟩
    refine q_for (K := K) (n := 4) (js := [2]) (E := fun i => [.int i]) S1.s (i_rng1' (n := 4) e_int (by decide)) (fun i hi => g_name)
      (fun i σ' G' H' => G' p = none ∧ Dice p H' ∧ ∃ w2 w3 w4 w5 w6 w7 w8 w9 w10 w11 w12 w13 w14 w15 w16 w17 w18 w19, σ' = [some (.ref a), some (.ref p), w2, w3, w4, w5, w6, w7, w8, w9, w10, w11, w12, w13, w14, w15, w16, w17, w18, w19])
      (fun G2 H2 s2 => ⟨(S1.then s2).g, (S1.then s2).d, _, _, _, _, _, _, _, _, _, _, _, _, _, _, _, _, _, _, rfl⟩) ?_ ?_
    · rintro Gw ew i hi σ' G' H' S' ew' ⟨gp', dc', w2, w3, w4, w5, w6, w7, w8, w9, w10, w11, w12, w13, w14, w15, w16, w17, w18, w19, rfl⟩ G2 H2 us s2 ru
      obtain ⟨y, rfl, ry⟩ := ru.one
      have S2 := (Sd.mk S' gp' dc').then s2
      refine qr_asgT (K := K) S2 (r_call1 rfl (a_cons (EvF.toD (f_lst (a_cons e_str (a_cons e_str (a_one e_str))) (by show _ ≤ 100000; decide))) (a_one (e_int (i := 12)))) ⟨[sFirst, sBest, sGroups], 12, rfl, ⟨by decide, by decide, fun r hr => ?_⟩, by decide⟩) fun v d G3 H3 s3 S3 ⟨rs', m', c, ts, vs, e1, e2, oc, _, ot, hl, hv⟩ rv => ?_
      · simp only [List.mem_cons, List.not_mem_nil, or_false] at hr
        exact hr
      subst e2
      refine g_three G3 H3 v _ _ S3.ii rv fun us ru => ?_
      obtain ⟨v3, v4, v5, rfl, r3, r4, r5⟩ := ru.three
      refine qrf_asg (K := K) (Rs := fun es => ∃ sub ws : List Ver, es = ws.map vrD ∧ sub.Sublist vs ∧ ws.Perm sub) S3 (rf_call rfl (rs_cons (RA := fun d => d = .tab (vkD vs)) (r_of (e_var rfl r5) rfl) (rs_one (RA := Btw 2 9) (by walk_at "drw") (Rs := fun ds => ∃ m : Nat, ds = [.int m] ∧ 0 < m ∧ m ≤ 1000000) fun d ⟨m, e1, e2, e3⟩ => ⟨m, by rw [e1], by omega, by omega⟩) fun d ds e1 ⟨m, e2, e3, e4⟩ => ?_)) fun vl xs ds G4 H4 s4 vl1 vl2 vl3 ⟨sub, ws, e1, e2, e3⟩ rx => ?_
      · subst e1 e2
        have h1 : (vpos vs).length = vs.length := List.length_map _
        have h2 : (vpos vs).length ≤ 20 * ts.length := by rw [hv]; exact trialsUpTo_len oc ot (Nat.le_refl _)
        have h3 := ot.len
        exact ⟨⟨vs, m, rfl, by rw [hv]; exact rise_trials _ _ _, by omega, e3, e4⟩, fun es h => some_of h⟩
      subst e1
      obtain ⟨ov, hwl⟩ := vers_some oc ot hv e2 e3
      have n4 := S3.d.ne vl1
      have vl0 := S3.pre vl1 n4
      have S4 := (S3.trans s4).freeze n4 vl0 vl2 vl3
      have r6 : Rp K (upd G4 vl (.lst xs)) (.ref vl) (vrsD ws) := .lst upd_same (rx.ex (Ex.new vl2))
      have r3 := (r3.ex s4.gg).ex (Ex.new (o := .lst xs) vl2)
      have r4 := (r4.ex s4.gg).ex (Ex.new (o := .lst xs) vl2)
      have e34 : Ex G3 (upd G4 vl (.lst xs)) := s4.gg.trans (Ex.new vl2)
      generalize hG5 : upd G4 vl (.lst xs) = G5 at S4 r6 r3 r4 e34
      generalize hvl : V.ref vl = v6 at r6
      have hot := oc.teams
      have hof := oc.fin
      have hofr := oc.frozen
      have hom := oc.many
      have htl := ot.len
      have c4 : Chg G5 (fun _ => none) H4 [] G5 (fun _ => none) H4 [] := Chg.refl S4.ii Owns.nil
      show tSeq _ _ _ [some (.ref a), some (.ref p), some y, some v3, some v4, some v5, some v6, w7, w8, w9, w10, w11, w12, w13, w14, w15, w16, w17, w18, w19] H4
      have g4 := c4.o.gg
      refine q_asgNew (K := K) (ds := [.str (rowT (conW c))]) c4 (f_lst (a_one (e_join (a := tSp) (ys := conW c) e_str (EvF.toD (f_lst (ds := [.str wCon, .str c.rule, .str (numS c.teams), .str (numS c.fin), .str (numS c.frozen)]) (a_cons e_str (a_cons (e_ix (d1 := c.d) (e_var rfl (r3.ex g4)) e_int rfl) (a_cons (e_strN (e_ix (d1 := c.d) (e_var rfl (r3.ex g4)) e_int rfl) (by omega)) (a_cons (e_strN (e_ix (d1 := c.d) (e_var rfl (r3.ex g4)) e_int rfl) (by omega)) (a_one (e_strN (e_ix (d1 := c.d) (e_var rfl (r3.ex g4)) e_int rfl) (by omega))))))) (by show 5 ≤ 100000; decide))) (row_hz (conW_ok oc)))) (by show 1 ≤ 100000; decide)) rfl fun l7 xs7 G6 H6 e6 hl7 c6 rx7 => ?_
      have r3 := r3.ex e6
      have r4 := r4.ex e6
      have r6 := r6.ex e6
      show tSeq _ _ _ [some (.ref a), some (.ref p), some y, some v3, some v4, some v5, some v6, some (.ref l7), w8, w9, w10, w11, w12, w13, w14, w15, w16, w17, w18, w19] H6
      refine q_for (K := K) (n := c.tasks.length) (js := [8, 9]) (E := fun i => match c.tasks[i]? with | some t => [.tup (t.1.map gD), .int t.2] | none => []) c6.s (i_seqT' (List.length_map _) (e_ix (d1 := c.d) (e_var rfl r3) e_int rfl)) (fun i hi => by rw [nth_map (List.getElem?_eq_getElem hi), List.getElem?_eq_getElem hi]; exact g_two)
        (fun i σ' G' H' => ∃ M' as' xs w8 w9 w16 w17 w18 w19, Chg G5 (fun _ => none) H4 [] G' M' H' as' ∧ l7 ∈ as' ∧ M' l7 = some (.lst xs) ∧ RpA K G' xs (((rowsC c).take (i + 1)).map fun ws => D.str (rowT ws)) ∧ σ' = [some (.ref a), some (.ref p), some y, some v3, some v4, some v5, some v6, some (.ref l7), w8, w9, w10, w11, w12, w13, w14, w15, w16, w17, w18, w19])
        (fun G7 H7 s7 => ⟨_, _, xs7, _, _, _, _, _, _, c6.then s7, List.mem_cons_self, upd_same, rx7.ex s7.g, rfl⟩) ?_ ?_
      · rintro Gv ev j hj σ' G' H' S'' ev' ⟨M', as', ys, u8, u9, u16, u17, u18, u19, c', hm', hl', ry, rfl⟩ G7 H7 us s7 ru
        have hti : c.tasks[j]? = some c.tasks[j] := List.getElem?_eq_getElem hj
        have htm := List.getElem_mem hj
        generalize c.tasks[j] = t at hti htm
        have ru : RpA K G7 us (match c.tasks[j]? with | some t => [.tup (t.1.map gD), .int t.2] | none => []) := ru
        rw [hti] at ru
        obtain ⟨b1, b2, rfl, rb1, rb2⟩ := ru.two
        obtain ⟨o1, o2, o3, o4⟩ := oc.task t htm
        have c7 := c'.then s7
        have gg := c7.o.gg
        have hyl : ys.length ≤ 7 := by
          rw [ry.len, List.length_map, List.length_take]
          unfold rowsC
          rw [List.length_cons, List.length_map]
          omega
        have hri : (rowsC c)[j + 1]? = some (tkW t) := by
          show (c.tasks.map tkW)[j]? = _
          rw [List.getElem?_map, hti]
          rfl
        refine s_appM (K := K) (d := .str (rowT (tkW t))) c7 hm' hl' (o_name rfl) (e_taskLaw (by omega) o3 (fun g hg => by have := o4 g hg; omega) (rb1.ex gg) (rb2.ex gg)) rfl (by omega) fun v G8 H8 e8 c8 rv => ?_
        refine ⟨G8, c8.s, ev'.trans (s7.g.trans e8), _, as', ys ++ [v], _, _, _, _, _, _, c8, hm', upd_same, ?_, rfl⟩
        rw [take_snoc17 hri, List.map_append]
        exact (ry.ex (s7.g.trans e8)).snoc rv
      · rintro σ' G7 H7 S'' ev ⟨M7, as7, ys, u8, u9, u16, u17, u18, u19, c7, hm7, hl7', ry, rfl⟩
        have r3 := r3.ex ev
        have r4 := r4.ex ev
        have r6 := r6.ex ev
        have hlc : (rowsC c).length = c.tasks.length + 1 := by unfold rowsC; rw [List.length_cons, List.length_map]
        rw [← hlc, List.take_length] at ry
        have gg := c7.o.gg
        refine q_asgNew (K := K) (ds := (rowsC c ++ ts.map trW).map fun ws => D.str (rowT ws)) c7 (EvF.eq (f_cat (ds := (rowsC c).map fun ws => D.str (rowT ws)) (es := ts.map fun t => D.str (rowT (trW t))) (e_var rfl (.lst (over_some hl7') (ry.ex gg))) (EvD.eq (EvF.toD (f_lcm (xs := ts) (Y := nth (ts.map trD)) (js := [19]) (fun _ t => [trD t]) (fun _ => true) (fun t => .str (rowT (trW t))) (i_seqL' (List.length_map _) (e_var rfl (r4.ex gg))) (fun k x hx => by rw [nth_map hx]; exact g_name) (by omega) (fun _ _ _ => rfl) (fun us _ => wipe_set (by decide)) (fun _ _ _ _ _ _ _ => b_yes) (fun k x hx _ Gb eb us ru => ?_))) (by rw [List.filter_eq_self.mpr (fun _ _ => rfl)])) (by rw [List.length_map, List.length_map, hlc]; omega)) (by rw [List.map_append, List.map_map]; rfl)) (tupOA_map (fun _ => rfl) _) fun l8 xs8 G8 H8 e8 hl8 c8 rx8 => ?_
        · obtain ⟨z, rfl, rz⟩ := ru.one
          have hok := ot.ok x (List.mem_of_getElem? hx)
          have k1 := hok.team
          have k2 := hok.task
          have k3 := hok.time
          exact e_tryLaw (by omega) (by omega) (by omega) rz (trW_ok oc hok)
        have r3 := r3.ex e8
        have r4 := r4.ex e8
        have r6 := r6.ex e8
        show tSeq _ _ _ [some (.ref a), some (.ref p), some y, some v3, some v4, some v5, some v6, some (.ref l8), u8, u9, w10, w11, w12, w13, w14, w15, u16, u17, u18, u19] H8
        refine q_for (K := K) (n := ws.length) (js := [10, 11, 12]) (E := fun i => match ws[i]? with | some v => [.int v.1, .int v.2.1, .bl v.2.2] | none => []) c8.s (i_seqL' (List.length_map _) (e_var rfl r6)) (fun i hi => by rw [nth_map (List.getElem?_eq_getElem hi), List.getElem?_eq_getElem hi]; exact g_three)
          (fun i σ' G' H' => ∃ M' as' xs w10 w11 w12, Chg G5 (fun _ => none) H4 [] G' M' H' as' ∧ l8 ∈ as' ∧ M' l8 = some (.lst xs) ∧ RpA K G' xs ((rowsC c ++ ts.map trW ++ (ws.take i).map vrW).map fun ws => D.str (rowT ws)) ∧ σ' = [some (.ref a), some (.ref p), some y, some v3, some v4, some v5, some v6, some (.ref l8), u8, u9, w10, w11, w12, w13, w14, w15, u16, u17, u18, u19])
          (fun G9 H9 s9 => ⟨_, _, xs8, _, _, _, c8.then s9, List.mem_cons_self, upd_same, by rw [List.take_zero, List.map_nil, List.append_nil]; exact rx8.ex s9.g, rfl⟩) ?_ ?_
        · rintro Gu eu j hj σ' G' H' S3' eu' ⟨M', as', zs, u10, u11, u12, c', hm', hl', rz, rfl⟩ G9 H9 us s9 ru
          have hvi : ws[j]? = some ws[j] := List.getElem?_eq_getElem hj
          have hvm := List.getElem_mem hj
          generalize ws[j] = x at hvi hvm
          have ru : RpA K G9 us (match ws[j]? with | some v => [.int v.1, .int v.2.1, .bl v.2.2] | none => []) := ru
          rw [hvi] at ru
          obtain ⟨b1, b2, b3, rfl, rb1, rb2, rb3⟩ := ru.three
          obtain ⟨k1, k2⟩ := ver_small oc ot ov hvm
          have c9 := c'.then s9
          have gg := c9.o.gg
          have hzl : zs.length < 100000 := by
            rw [rz.len, List.length_map, List.length_append, List.length_append, List.length_map, List.length_map, List.length_take]
            omega
          refine s_appM (K := K) (d := .str (rowT (vrW x))) c9 hm' hl' (o_name rfl) (e_verLaw (by omega) (by omega) (rb1.ex gg) (rb2.ex gg) (rb3.ex gg)) rfl hzl fun v G10 H10 e10 c10 rv => ?_
          refine ⟨G10, c10.s, eu'.trans (s9.g.trans e10), _, as', zs ++ [v], _, _, _, c10, hm', upd_same, ?_, rfl⟩
          have e1 : rowsC c ++ ts.map trW ++ (ws.take (j + 1)).map vrW = (rowsC c ++ ts.map trW ++ (ws.take j).map vrW) ++ [vrW x] := by
            rw [take_snoc17 hvi, List.map_append, List.append_assoc (rowsC c ++ ts.map trW)]
            rfl
          rw [e1, List.map_append]
          exact (rz.ex (s9.g.trans e10)).snoc rv
        · rintro σ' G9 H9 S3' eu ⟨M9, as9, zs, u10, u11, u12, c9, hm9, hl9, rz, rfl⟩
          have r3 := r3.ex eu
          have r4 := r4.ex eu
          have r6 := r6.ex eu
          rw [List.take_length, List.append_assoc] at rz
          have rz : RpA K G9 zs ((rowsW c ts ws).map fun ws => D.str (rowT ws)) := rz
          have rz2 : RpA K G9 zs (((rowsW c ts ws).map rowT).map D.str) := by rw [List.map_map]; exact rz
          refine q_asgC' (K := K) (d := .str (textT c ts ws)) c9 (e_join (a := tNl) (ys := (rowsW c ts ws).map rowT) e_str (e_var rfl (.lst (over_some hl9) (rz2.ex c9.o.gg))) (text_hz (rowsW_ok oc ot ov) (rowsW_len oc ot (by omega)))) rfl fun v13 G10 H10 e10 c10 r13 => ?_
          have z13 := r13.str_of
          subst z13
          have r3 := r3.ex e10
          have r4 := r4.ex e10
          have r6 := r6.ex e10
          show tFor _ _ _ _ [some (.ref a), some (.ref p), some y, some v3, some v4, some v5, some v6, some (.ref l8), u8, u9, u10, u11, u12, some (.str (textT c ts ws)), w14, w15, u16, u17, u18, u19] H10
          have base : Ex Gw G5 := ew'.trans (s2.g.trans (s3.gg.trans e34))
          refine s_for (K := K) (n := 2) (js := [14]) (E := fun i => [.int i]) c10.s (i_rng1' (n := 2) e_int (by decide)) (fun i hi => g_name)
            (fun i σ' G' H' => ∃ M' as' w14 w15, Chg G5 (fun _ => none) H4 [] G' M' H' as' ∧ σ' = [some (.ref a), some (.ref p), some y, some v3, some v4, some v5, some v6, some (.ref l8), u8, u9, u10, u11, u12, some (.str (textT c ts ws)), w14, w15, u16, u17, u18, u19])
            (fun G11 H11 s11 => ⟨_, _, _, _, c10.then s11, rfl⟩) ?_ ?_
          · rintro Gt et j hj σ' G' H' S4' et' ⟨M', as', u14, u15, c', rfl⟩ G11 H11 us s11 ru
            obtain ⟨y14, rfl, ry14⟩ := ru.one
            have c11 := c'.then s11
            have e11 : Ex G10 G11 := et.trans (et'.trans s11.g)
            have r3 := r3.ex e11
            have r4 := r4.ex e11
            have r6 := r6.ex e11
            refine ⟨_, rfl, tNil_go17 ?_⟩
            show sp_read K [.str (textT c ts ws)] H11 _ E0
            refine ⟨G11, M', c, ts, ws, rfl, c11.ii, c11.o, oc, ot, ov, hwl, fun G12 M12 H12 as12 t vc lo ls xo xs e12 c12 ht rc hlo ro hls rs ilo ils nl => ?_⟩
            have cc := c11.trans (c12.wide (as1 := as') (fun b hb => nomatch hb))
            have r3 := r3.ex e12
            have r4 := r4.ex e12
            have r6 := r6.ex e12
            show tSeq _ _ _ [some (.ref a), some (.ref p), some y, some v3, some v4, some v5, some v6, some (.ref l8), u8, u9, u10, u11, u12, some (.str (textT c ts ws)), some y14, some (.ref t), u16, u17, u18, u19] H12
            refine q_whenC cc (b := false) (b_notT (b_B (e_call (a_cons (e_call (d := .str (textT c ts ws)) (a_cons (e_var rfl (r3.ex cc.o.gg)) (a_cons (e_var rfl (r4.ex cc.o.gg)) (a_one (e_var rfl (r6.ex cc.o.gg))))) ⟨c, ts, ws, rfl, oc, ot, ov, hwl, rfl⟩) (a_one (e_var rfl (.str _)))) ⟨.str (textT c ts ws), rfl, .str _, rfl⟩))) (fun z => nomatch z) fun _ G13 H13 e13 c13 => ?_
            have r3 := r3.ex e13
            have r4 := r4.ex e13
            have r6 := r6.ex e13
            have gg := c13.o.gg
            have ht13 : G13 t = some (.tup [vc, .ref lo, .ref ls]) := e13.k _ _ ht rfl
            have rfd : Rp K (over G13 M12) (.ref t) (.tup [c.d, trsD ts, vrsD ws]) := .tup (gg.k _ _ ht13 rfl) (.cons ((rc.ex e13).ex gg) (.cons (.lst (over_some hlo) ((ro.ex e13).ex gg)) (.cons (.lst (over_some hls) ((rs.ex e13).ex gg)) .nil)))
            refine q_whenC c13 (b := false) (b_notT (b_B (e_call (a_cons (e_var rfl rfd) (a_one (e_tup (a_cons (e_var rfl (r3.ex gg)) (a_cons (e_var rfl (r4.ex gg)) (a_one (e_var rfl (r6.ex gg))))) (by show 3 ≤ 100000; decide)))) ⟨.tup [c.d, trsD ts, vrsD ws], rfl, fit_case oc ot hwl, rfl⟩))) (fun z => nomatch z) fun _ G14 H14 e14 c14 => ?_
            have ht14 : G14 t = some (.tup [vc, .ref lo, .ref ls]) := e14.k _ _ ht13 rfl
            have hxol : xo.length < 100000 := by rw [ro.len, List.length_map]; omega
            refine q_appM (K := K) (d := .tup []) c14 (List.mem_append_left _ ilo) hlo (o_ixT (o_name rfl) (c14.o.gg.k _ _ ht14 rfl) (e_int (i := ((1 : Nat) : Int))) rfl) (e_tup a_nil (by show 0 ≤ 100000; decide)) rfl hxol fun v20 G15 H15 e15 c15 rv20 => ?_
            have ht15 : G15 t = some (.tup [vc, .ref lo, .ref ls]) := e15.k _ _ ht14 rfl
            have hls15 : upd M12 lo (.lst (xo ++ [v20])) ls = some (.lst xs) := by rw [upd_ne (Ne.symm nl)]; exact hls
            refine s_clear0 (K := K) c15 (List.mem_append_left _ ils) hls15 (o_ixT (o_name rfl) (c15.o.gg.k _ _ ht15 rfl) (e_int (i := ((2 : Nat) : Int))) rfl) fun G16 H16 e16 c16 => ?_
            exact ⟨G16, c16.s, et'.trans (s11.g.trans (e12.trans (e13.trans (e14.trans (e15.trans e16))))), _, _, _, _, c16, rfl⟩
          · rintro σ' G' H' S4' et ⟨M', as', u14, u15, c', rfl⟩
            have SF := S4.then (show Step G5 H4 G' H' from c'.s)
            exact ⟨G', SF.s, base.trans c'.gg, SF.g, SF.d, _, _, _, _, _, _, _, _, _, _, _, _, _, _, _, _, _, _, rfl⟩
    · rintro σ' G' H' S' ew' ⟨gp', dc', w2, w3, w4, w5, w6, w7, w8, w9, w10, w11, w12, w13, w14, w15, w16, w17, w18, w19, rfl⟩
      exact s_ret (K := K) (d := .bl true) S'.i e_bl fun v G7 H7 s7 rv => by
        cases rv
        exact k _

end

end J
namespace J
open PySem PySem.Spec PyProof.Rows L2
def dn__law_alike : He.DefD := ⟨("_law_alike", none), "_law_alike", "_law_alike", defArgs s__law_alike, defBody s__law_alike, defScope s__law_alike, [], []⟩
def dn__law_off : He.DefD := ⟨("_law_off", none), "_law_off", "_law_off", defArgs s__law_off, defBody s__law_off, defScope s__law_off, [], []⟩
def dn__law_contest : He.DefD := ⟨("_law_contest", none), "_law_contest", "_law_contest", defArgs s__law_contest, defBody s__law_contest, defScope s__law_contest, [], []⟩
def dn__law_tries : He.DefD := ⟨("_law_tries", none), "_law_tries", "_law_tries", defArgs s__law_tries, defBody s__law_tries, defScope s__law_tries, [], []⟩
def dn__law_size : He.DefD := ⟨("_law_size", none), "_law_size", "_law_size", defArgs s__law_size, defBody s__law_size, defScope s__law_size, [], []⟩
def dn__law_truth : He.DefD := ⟨("_law_truth", none), "_law_truth", "_law_truth", defArgs s__law_truth, defBody s__law_truth, defScope s__law_truth, [], []⟩
def dn__law_case : He.DefD := ⟨("_law_case", none), "_law_case", "_law_case", defArgs s__law_case, defBody s__law_case, defScope s__law_case, [], []⟩
def dn__law_dice : He.DefD := ⟨("_law_dice", none), "_law_dice", "_law_dice", defArgs s__law_dice, defBody s__law_dice, defScope s__law_dice, [], []⟩
def dn__law_mixed : He.DefD := ⟨("_law_mixed", none), "_law_mixed", "_law_mixed", defArgs s__law_mixed, defBody s__law_mixed, defScope s__law_mixed, [], []⟩
def dn__law_some : He.DefD := ⟨("_law_some", none), "_law_some", "_law_some", defArgs s__law_some, defBody s__law_some, defScope s__law_some, [], []⟩
def dn_Reader_init : He.DefD := ⟨("Reader", some "__init__"), "__init__", "Reader.__init__", defArgs s_Reader_init, defBody s_Reader_init, defScope s_Reader_init, [], []⟩
def dn_number_of : He.DefD := ⟨("number_of", none), "number_of", "number_of", defArgs s_number_of, defBody s_number_of, defScope s_number_of, [], []⟩
def dn_numbers_of_words : He.DefD := ⟨("numbers_of_words", none), "numbers_of_words", "numbers_of_words", defArgs s_numbers_of_words, defBody s_numbers_of_words, defScope s_numbers_of_words, [], []⟩
def dn_task_of : He.DefD := ⟨("task_of", none), "task_of", "task_of", defArgs s_task_of, defBody s_task_of, defScope s_task_of, [], []⟩
def dn_Reader_take : He.DefD := ⟨("Reader", some "take"), "take", "Reader.take", defArgs s_Reader_take, defBody s_Reader_take, defScope s_Reader_take, [], []⟩
def dn_is_between : He.DefD := ⟨("is_between", none), "is_between", "is_between", defArgs s_is_between, defBody s_is_between, defScope s_is_between, [], []⟩
def dn_is_group : He.DefD := ⟨("is_group", none), "is_group", "is_group", defArgs s_is_group, defBody s_is_group, defScope s_is_group, [], []⟩
def dn_need_tasks : He.DefD := ⟨("need_tasks", none), "need_tasks", "need_tasks", defArgs s_need_tasks, defBody s_need_tasks, defScope s_need_tasks, [], []⟩
def dn_need_contest : He.DefD := ⟨("need_contest", none), "need_contest", "need_contest", defArgs s_need_contest, defBody s_need_contest, defScope s_need_contest, [], []⟩
def dn_is_try : He.DefD := ⟨("is_try", none), "is_try", "is_try", defArgs s_is_try, defBody s_is_try, defScope s_is_try, [], []⟩
def dn_need_tries : He.DefD := ⟨("need_tries", none), "need_tries", "need_tries", defArgs s_need_tries, defBody s_need_tries, defScope s_need_tries, [], []⟩
def dn_trials_of : He.DefD := ⟨("trials_of", none), "trials_of", "trials_of", defArgs s_trials_of, defBody s_trials_of, defScope s_trials_of, [], []⟩
def dn_is_verdict : He.DefD := ⟨("is_verdict", none), "is_verdict", "is_verdict", defArgs s_is_verdict, defBody s_is_verdict, defScope s_is_verdict, [], []⟩
def dn_need_verdicts : He.DefD := ⟨("need_verdicts", none), "need_verdicts", "need_verdicts", defArgs s_need_verdicts, defBody s_need_verdicts, defScope s_need_verdicts, [], []⟩
def dn_need_all : He.DefD := ⟨("need_all", none), "need_all", "need_all", defArgs s_need_all, defBody s_need_all, defScope s_need_all, [], []⟩
def dn_read : He.DefD := ⟨("read", none), "read", "read", defArgs s_read, defBody s_read, defScope s_read, [], []⟩
def dn_contest_rows : He.DefD := ⟨("contest_rows", none), "contest_rows", "contest_rows", defArgs s_contest_rows, defBody s_contest_rows, defScope s_contest_rows, [], []⟩
def dn_written : He.DefD := ⟨("written", none), "written", "written", defArgs s_written, defBody s_written, defScope s_written, [], []⟩
def dn_law : He.DefD := ⟨("law", none), "law", "law", defArgs s_law, defBody s_law, defScope s_law, [], []⟩
def fn : List He.DefD := [dn__law_alike, dn__law_off, dn__law_contest, dn__law_tries, dn__law_size, dn__law_truth, dn__law_case, dn__law_dice, dn__law_mixed, dn__law_some, dn_Reader_init, dn_number_of, dn_numbers_of_words, dn_task_of, dn_Reader_take, dn_is_between, dn_is_group, dn_need_tasks, dn_need_contest, dn_is_try, dn_need_tries, dn_trials_of, dn_is_verdict, dn_need_verdicts, dn_need_all, dn_read, dn_contest_rows, dn_written, dn_law]
def fa : List He.Fa := [.glo "_law_alike", .glo "_law_off", .glo "_law_contest", .glo "_law_tries", .glo "_law_size", .glo "_law_truth", .glo "_law_case", .glo "_law_dice", .glo "_law_mixed", .glo "_law_some", .glo "number_of", .glo "numbers_of_words", .glo "task_of", .glo "is_between", .glo "is_group", .glo "need_tasks", .glo "need_contest", .glo "is_try", .glo "need_tries", .glo "trials_of", .glo "is_verdict", .glo "need_verdicts", .glo "need_all", .glo "read", .glo "contest_rows", .glo "written", .glo "law", .cls "Reader", .meth "Reader" "take", .glo "Reader", .mkr "Reader", .str "FIGURES" "0123456789", .int "MOST_END" 300, .int "MOST_GROUPS" 4, .int "MOST_POINTS" 100, .int "MOST_TASKS" 6, .int "MOST_TEAMS" 12, .int "MOST_TIME" 999, .int "MOST_TRIALS" 5, .int "MOST_TRIES" 200, .glo "RULES", .noat "Reader" "head", .noat "Reader" "offers", .noat "Reader" "said", .noat "Reader" "tasks", .free "abs", .free "all", .free "bool", .free "enumerate", .free "int", .free "isinstance", .free "len", .free "list", .free "min", .free "range", .free "sorted", .free "str", .free "sum", .free "tuple", .glo "MARKS"]
def tabK : List He.Tab := [(fun K => He.ga K "MARKS", ["+", "-"])]
def ex (K : PySem.W.Frag) : Bool := (He.tupB K "RULES" [.str (PySem.Str.ofString "first"), .str (PySem.Str.ofString "best"), .str (PySem.Str.ofString "groups")]) && (He.valsB K (He.ga K "MARKS") [(tPl, He.Dv.bl true), (tMi, He.Dv.bl false)])
theorem ex0 {K : PySem.W.Frag} (h : ex K = true) : (He.tupB K "RULES" [.str (PySem.Str.ofString "first"), .str (PySem.Str.ofString "best"), .str (PySem.Str.ofString "groups")]) = true := (He.ba h).1
theorem ex1 {K : PySem.W.Frag} (h : ex K = true) : (He.valsB K (He.ga K "MARKS") [(tPl, He.Dv.bl true), (tMi, He.Dv.bl false)]) = true := (He.ba h).2
def loose0 : List PySem.Str := ["__name__", "HallError", "ValueError", "BadContest", "BadTries", "BadVerdicts", "BadText", "FIRST", "BEST", "GROUPS", "RULES", "MOST_TEAMS", "MOST_TASKS", "MOST_GROUPS", "MOST_TRIALS", "MOST_POINTS", "MOST_END", "MOST_TRIES", "MOST_TIME", "is_between", "is_group", "need_tasks", "need_contest", "trials_of", "is_try", "need_tries", "is_verdict", "need_verdicts", "need_all", "FIGURES"]
def loose1 : List PySem.Str := ["MARKS", "contest_rows", "written", "number_of", "numbers_of_words", "task_of", "Reader", "read", "_law_dice", "_law_off", "_law_alike", "_law_mixed", "_law_contest", "_law_tries", "_law_size", "_law_truth", "_law_some", "_law_case"]
def loose : List PySem.Str := loose0 ++ loose1
abbrev R : PySem.W.OpenRow := PySem.W.OpenLaw.row PySem.Challenge.rw_judgehall_k17_written_and_read
def tf : List He.Defn := []
abbrev hk : PySem.W.Hook := He.hookX 4 fa fn tabK tf ex
def ob (s : PySem.W.SharedT) : He.AlX := He.obsX 4 fa fn tabK tf ex (HandSHeadRun.getT s)
theorem ob_eq (s : PySem.W.SharedT) : ob s = hk.obs s.abs := He.obsX_eq (HandSHeadRun.getT_eq s)
set_option maxHeartbeats 0 in
theorem run_false (w : World) : HandSHeadRun.RunEq R (PySem.W.view R.prog [50]) hk ob 60000 loose (w.withFollow "special-get-raises" false) := by
  intro os
  kernel_rfl
set_option maxHeartbeats 0 in
theorem run_true (w : World) : HandSHeadRun.RunEq R (PySem.W.view R.prog [50]) hk ob 60000 loose (w.withFollow "special-get-raises" true) := by
  intro os
  kernel_rfl
theorem run (w : World) : HandSHeadRun.RunEq R (PySem.W.view R.prog [50]) hk ob 60000 loose w :=
  PySem.W.byRow2 "special-get-raises" (P := fun w => HandSHeadRun.RunEq R (PySem.W.view R.prog [50]) hk ob 60000 loose w) run_false run_true w
def tbs (_ : PySem.W.Frag) : Tbs := ⟨fun _ => "", 0, 0⟩
theorem facts {w : World} {K : PySem.W.Frag} {h : Heap} {mg : Str → Option Value} {f : Addr} (X : K.In h) (G : h.Ns mainGlobals mg) (hfa : mg ("law" : Str) = some (.ref f)) (c : He.SaysX fa fn tabK tf ex w h K) : LamX.LawAtS PySem.Challenge.rw_judgehall_k17_written_and_read w K CX0 9 63 "_law_script" mg f h := by
  letI : Tbs := tbs K
  obtain ⟨fd__law_alike, F__law_alike⟩ := c.t.d.def_ 0 (d := dn__law_alike) rfl
  obtain ⟨fd__law_off, F__law_off⟩ := c.t.d.def_ 1 (d := dn__law_off) rfl
  obtain ⟨fd__law_contest, F__law_contest⟩ := c.t.d.def_ 2 (d := dn__law_contest) rfl
  obtain ⟨fd__law_tries, F__law_tries⟩ := c.t.d.def_ 3 (d := dn__law_tries) rfl
  obtain ⟨fd__law_size, F__law_size⟩ := c.t.d.def_ 4 (d := dn__law_size) rfl
  obtain ⟨fd__law_truth, F__law_truth⟩ := c.t.d.def_ 5 (d := dn__law_truth) rfl
  obtain ⟨fd__law_case, F__law_case⟩ := c.t.d.def_ 6 (d := dn__law_case) rfl
  obtain ⟨fd__law_dice, F__law_dice⟩ := c.t.d.def_ 7 (d := dn__law_dice) rfl
  obtain ⟨fd__law_mixed, F__law_mixed⟩ := c.t.d.def_ 8 (d := dn__law_mixed) rfl
  obtain ⟨fd__law_some, F__law_some⟩ := c.t.d.def_ 9 (d := dn__law_some) rfl
  obtain ⟨fd_Reader_init, F_Reader_init⟩ := c.t.d.def_ 10 (d := dn_Reader_init) rfl
  obtain ⟨fd_number_of, F_number_of⟩ := c.t.d.def_ 11 (d := dn_number_of) rfl
  obtain ⟨fd_numbers_of_words, F_numbers_of_words⟩ := c.t.d.def_ 12 (d := dn_numbers_of_words) rfl
  obtain ⟨fd_task_of, F_task_of⟩ := c.t.d.def_ 13 (d := dn_task_of) rfl
  obtain ⟨fd_Reader_take, F_Reader_take⟩ := c.t.d.def_ 14 (d := dn_Reader_take) rfl
  obtain ⟨fd_is_between, F_is_between⟩ := c.t.d.def_ 15 (d := dn_is_between) rfl
  obtain ⟨fd_is_group, F_is_group⟩ := c.t.d.def_ 16 (d := dn_is_group) rfl
  obtain ⟨fd_need_tasks, F_need_tasks⟩ := c.t.d.def_ 17 (d := dn_need_tasks) rfl
  obtain ⟨fd_need_contest, F_need_contest⟩ := c.t.d.def_ 18 (d := dn_need_contest) rfl
  obtain ⟨fd_is_try, F_is_try⟩ := c.t.d.def_ 19 (d := dn_is_try) rfl
  obtain ⟨fd_need_tries, F_need_tries⟩ := c.t.d.def_ 20 (d := dn_need_tries) rfl
  obtain ⟨fd_trials_of, F_trials_of⟩ := c.t.d.def_ 21 (d := dn_trials_of) rfl
  obtain ⟨fd_is_verdict, F_is_verdict⟩ := c.t.d.def_ 22 (d := dn_is_verdict) rfl
  obtain ⟨fd_need_verdicts, F_need_verdicts⟩ := c.t.d.def_ 23 (d := dn_need_verdicts) rfl
  obtain ⟨fd_need_all, F_need_all⟩ := c.t.d.def_ 24 (d := dn_need_all) rfl
  obtain ⟨fd_read, F_read⟩ := c.t.d.def_ 25 (d := dn_read) rfl
  obtain ⟨fd_contest_rows, F_contest_rows⟩ := c.t.d.def_ 26 (d := dn_contest_rows) rfl
  obtain ⟨fd_written, F_written⟩ := c.t.d.def_ 27 (d := dn_written) rfl
  obtain ⟨fd_law, F_law⟩ := c.t.d.def_ 28 (d := dn_law) rfl
  have T : Tx K mg := ⟨He.free_ok X G (c.t.d.fact 45 (f := .free "abs") rfl), He.free_ok X G (c.t.d.fact 46 (f := .free "all") rfl), He.free_ok X G (c.t.d.fact 47 (f := .free "bool") rfl), He.free_ok X G (c.t.d.fact 48 (f := .free "enumerate") rfl), He.free_ok X G (c.t.d.fact 49 (f := .free "int") rfl), He.free_ok X G (c.t.d.fact 50 (f := .free "isinstance") rfl), He.free_ok X G (c.t.d.fact 51 (f := .free "len") rfl), He.free_ok X G (c.t.d.fact 52 (f := .free "list") rfl), He.free_ok X G (c.t.d.fact 53 (f := .free "min") rfl), He.free_ok X G (c.t.d.fact 54 (f := .free "range") rfl), He.free_ok X G (c.t.d.fact 55 (f := .free "sorted") rfl), He.free_ok X G (c.t.d.fact 56 (f := .free "str") rfl), He.free_ok X G (c.t.d.fact 57 (f := .free "sum") rfl), He.free_ok X G (c.t.d.fact 58 (f := .free "tuple") rfl), ⟨He.ga K "RULES", He.glo_ok X G (c.t.d.fact 40 (f := .glo "RULES") rfl), fun H => He.tupB_ok (ex0 c.more) H⟩, He.int_ok X G (c.t.d.fact 36 (f := .int "MOST_TEAMS" 12) rfl), He.int_ok X G (c.t.d.fact 35 (f := .int "MOST_TASKS" 6) rfl), He.int_ok X G (c.t.d.fact 33 (f := .int "MOST_GROUPS" 4) rfl), He.int_ok X G (c.t.d.fact 38 (f := .int "MOST_TRIALS" 5) rfl), He.int_ok X G (c.t.d.fact 34 (f := .int "MOST_POINTS" 100) rfl), He.int_ok X G (c.t.d.fact 32 (f := .int "MOST_END" 300) rfl), He.int_ok X G (c.t.d.fact 39 (f := .int "MOST_TRIES" 200) rfl), He.int_ok X G (c.t.d.fact 37 (f := .int "MOST_TIME" 999) rfl), He.str_ok X G (c.t.d.fact 31 (f := .str "FIGURES" "0123456789") rfl), He.cls_ok (c.t.d.fact 27 (f := .cls "Reader") rfl), He.noat_ok (c.t.d.fact 41 (f := .noat "Reader" "head") rfl), He.noat_ok (c.t.d.fact 44 (f := .noat "Reader" "tasks") rfl), He.noat_ok (c.t.d.fact 42 (f := .noat "Reader" "offers") rfl), He.noat_ok (c.t.d.fact 43 (f := .noat "Reader" "said") rfl)⟩
  have MK : ∃ a, mg "MARKS" = some (.ref a) ∧ KTabV K w a mkL := by
    obtain ⟨es, n, DD⟩ := c.t.tab 0 (t := (fun K => He.ga K "MARKS", ["+", "-"])) rfl
    refine ⟨He.ga K "MARKS", He.glo_ok X G (c.t.d.fact 59 (f := .glo "MARKS") rfl), es, n, DD, fun q hq => ?_⟩
    have h0 := ex1 c.more
    unfold mkL at hq
    simp only [List.mem_cons, List.not_mem_nil, or_false] at hq
    rcases hq with rfl | rfl
    · exact He.valsB_ok h0 (List.mem_cons_self)
    · exact He.valsB_ok h0 (List.mem_cons_of_mem _ List.mem_cons_self)
  have e := hfa.symm.trans (He.glo_ok X G (c.t.d.fact 26 (f := .glo "law") rfl))
  cases e
  have b := FunD.bindsA (ps := P_law) F_law fun _ _ _ _ _ _ us hl => match us, hl with | [_], _ => rfl
  refine ⟨fd_law, tf.map (He.cT K), sp_law K, fun p hp => ?_, fun p hp => ?_, fun p hp => ?_, fun s v => b s [v] rfl, fun H a ns hl _ hT hS => ?_, fun base _ _ TB => ?_⟩
  · obtain ⟨d, hd, rfl⟩ := List.mem_map.mp hp
    exact c.empty d hd
  · obtain ⟨d, hd, rfl⟩ := List.mem_map.mp hp
    exact c.out d hd
  · obtain ⟨d, hd, rfl⟩ := List.mem_map.mp hp
    exact PySem.W.codeHd_of_K X (c.hd d hd)
  · exact ⟨a, ns, rfl, hS, hl, fun _ => rfl⟩
  have Q__law_alike : Fun K "_law_alike" "_law_alike" s__law_alike _ fd__law_alike := fun_of F__law_alike
  have b__law_alike : Binds K fd__law_alike P__law_alike [] := Q__law_alike.binds fun _ _ _ _ _ _ us hl => match us, hl with | [_, _], _ => rfl
  have g__law_alike := He.glo_ok X G (c.t.d.fact 0 (f := .glo "_law_alike") rfl)
  have d__law_alike : Dk R.prog w K mg base 8 "_law_alike" P__law_alike (sp__law_alike 8 K) := ⟨_, fd__law_alike, ok__law_alike Q__law_alike T b__law_alike g__law_alike 8, b__law_alike, g__law_alike, F__law_alike.kp⟩
  have Q__law_off : Fun K "_law_off" "_law_off" s__law_off _ fd__law_off := fun_of F__law_off
  have b__law_off : Binds K fd__law_off P__law_off [] := Q__law_off.binds fun _ _ _ _ _ _ us hl => match us, hl with | [_, _], _ => rfl
  have g__law_off := He.glo_ok X G (c.t.d.fact 1 (f := .glo "_law_off") rfl)
  have d__law_off : Dk R.prog w K mg base 1 "_law_off" P__law_off (sp__law_off K) := ⟨_, fd__law_off, ok__law_off Q__law_off T, b__law_off, g__law_off, F__law_off.kp⟩
  have Q__law_contest : Fun K "_law_contest" "_law_contest" s__law_contest _ fd__law_contest := fun_of F__law_contest
  have b__law_contest : Binds K fd__law_contest P__law_contest [] := Q__law_contest.binds fun _ _ _ _ _ _ us hl => match us, hl with | [_, _], _ => rfl
  have g__law_contest := He.glo_ok X G (c.t.d.fact 2 (f := .glo "_law_contest") rfl)
  have d__law_contest : Dk R.prog w K mg base 2 "_law_contest" P__law_contest (sp__law_contest K) := ⟨_, fd__law_contest, ok__law_contest Q__law_contest T d__law_off, b__law_contest, g__law_contest, F__law_contest.kp⟩
  have Q__law_tries : Fun K "_law_tries" "_law_tries" s__law_tries _ fd__law_tries := fun_of F__law_tries
  have b__law_tries : Binds K fd__law_tries P__law_tries [] := Q__law_tries.binds fun _ _ _ _ _ _ us hl => match us, hl with | [_, _, _], _ => rfl
  have g__law_tries := He.glo_ok X G (c.t.d.fact 3 (f := .glo "_law_tries") rfl)
  have d__law_tries : Dk R.prog w K mg base 2 "_law_tries" P__law_tries (sp__law_tries K) := ⟨_, fd__law_tries, ok__law_tries Q__law_tries T d__law_off, b__law_tries, g__law_tries, F__law_tries.kp⟩
  have Q__law_size : Fun K "_law_size" "_law_size" s__law_size _ fd__law_size := fun_of F__law_size
  have b__law_size : Binds K fd__law_size P__law_size [] := Q__law_size.binds fun _ _ _ _ _ _ us hl => match us, hl with | [_, _], _ => rfl
  have g__law_size := He.glo_ok X G (c.t.d.fact 4 (f := .glo "_law_size") rfl)
  have d__law_size : Dk R.prog w K mg base 1 "_law_size" P__law_size (sp__law_size K) := ⟨_, fd__law_size, ok__law_size Q__law_size T, b__law_size, g__law_size, F__law_size.kp⟩
  have Q__law_truth : Fun K "_law_truth" "_law_truth" s__law_truth _ fd__law_truth := fun_of F__law_truth
  have b__law_truth : Binds K fd__law_truth P__law_truth [] := Q__law_truth.binds fun _ _ _ _ _ _ us hl => match us, hl with | [_, _, _], _ => rfl
  have g__law_truth := He.glo_ok X G (c.t.d.fact 5 (f := .glo "_law_truth") rfl)
  have d__law_truth : Dk R.prog w K mg base 2 "_law_truth" P__law_truth (sp__law_truth K) := ⟨_, fd__law_truth, ok__law_truth Q__law_truth T d__law_off d__law_size, b__law_truth, g__law_truth, F__law_truth.kp⟩
  have Q__law_case : Fun K "_law_case" "_law_case" s__law_case _ fd__law_case := fun_of F__law_case
  have b__law_case : Binds K fd__law_case P__law_case [] := Q__law_case.binds fun _ _ _ _ _ _ us hl => match us, hl with | [_, _, _], _ => rfl
  have g__law_case := He.glo_ok X G (c.t.d.fact 6 (f := .glo "_law_case") rfl)
  have d__law_case : Dk R.prog w K mg base 3 "_law_case" P__law_case (sp__law_case K) := ⟨_, fd__law_case, ok__law_case Q__law_case T d__law_contest d__law_tries d__law_truth, b__law_case, g__law_case, F__law_case.kp⟩
  have Q__law_dice : Fun K "_law_dice" "_law_dice" s__law_dice _ fd__law_dice := fun_of F__law_dice
  have b__law_dice : Binds K fd__law_dice P__law_dice [] := Q__law_dice.binds fun _ _ _ _ _ _ us hl => match us, hl with | [_, _], _ => rfl
  have g__law_dice := He.glo_ok X G (c.t.d.fact 7 (f := .glo "_law_dice") rfl)
  have d__law_dice : Dk R.prog w K mg base 1 "_law_dice" P__law_dice (sp__law_dice K) := ⟨_, fd__law_dice, ok__law_dice Q__law_dice T, b__law_dice, g__law_dice, F__law_dice.kp⟩
  have Q__law_mixed : Fun K "_law_mixed" "_law_mixed" s__law_mixed _ fd__law_mixed := fun_of F__law_mixed
  have b__law_mixed : Binds K fd__law_mixed P__law_mixed [] := Q__law_mixed.binds fun _ _ _ _ _ _ us hl => match us, hl with | [_, _], _ => rfl
  have g__law_mixed := He.glo_ok X G (c.t.d.fact 8 (f := .glo "_law_mixed") rfl)
  have d__law_mixed : Dk R.prog w K mg base 2 "_law_mixed" P__law_mixed (sp__law_mixed K) := ⟨_, fd__law_mixed, ok__law_mixed Q__law_mixed T d__law_off, b__law_mixed, g__law_mixed, F__law_mixed.kp⟩
  have Q__law_some : Fun K "_law_some" "_law_some" s__law_some _ fd__law_some := fun_of F__law_some
  have b__law_some : Binds K fd__law_some P__law_some [] := Q__law_some.binds fun _ _ _ _ _ _ us hl => match us, hl with | [_, _, _], _ => rfl
  have g__law_some := He.glo_ok X G (c.t.d.fact 9 (f := .glo "_law_some") rfl)
  have d__law_some : Dk R.prog w K mg base 3 "_law_some" P__law_some (sp__law_some K) := ⟨_, fd__law_some, ok__law_some Q__law_some T d__law_mixed d__law_off, b__law_some, g__law_some, F__law_some.kp⟩
  have Q_Reader_init : Fun K "__init__" "Reader.__init__" s_Reader_init _ fd_Reader_init := fun_of F_Reader_init
  have b_Reader_init : Binds K fd_Reader_init P_Reader_init [] := Q_Reader_init.binds fun _ _ _ _ _ _ us hl => match us, hl with | [_], _ => rfl
  have d_Reader : Dc R.prog w K mg base 1 "Reader" P_Reader_init (sp_Reader_init K) := ⟨_, fd_Reader_init, ok_Reader_init Q_Reader_init T, b_Reader_init, He.mkr_ok (c.t.d.fact 30 (f := .mkr "Reader") rfl), He.glo_ok X G (c.t.d.fact 29 (f := .glo "Reader") rfl)⟩
  have Q_number_of : Fun K "number_of" "number_of" s_number_of _ fd_number_of := fun_of F_number_of
  have b_number_of : Binds K fd_number_of P_number_of [] := Q_number_of.binds fun _ _ _ _ _ _ us hl => match us, hl with | [_], _ => rfl
  have g_number_of := He.glo_ok X G (c.t.d.fact 10 (f := .glo "number_of") rfl)
  have d_number_of : Dk R.prog w K mg base 1 "number_of" P_number_of (sp_number_of K) := ⟨_, fd_number_of, ok_number_of Q_number_of T, b_number_of, g_number_of, F_number_of.kp⟩
  have Q_numbers_of_words : Fun K "numbers_of_words" "numbers_of_words" s_numbers_of_words _ fd_numbers_of_words := fun_of F_numbers_of_words
  have b_numbers_of_words : Binds K fd_numbers_of_words P_numbers_of_words [] := Q_numbers_of_words.binds fun _ _ _ _ _ _ us hl => match us, hl with | [_, _], _ => rfl
  have g_numbers_of_words := He.glo_ok X G (c.t.d.fact 11 (f := .glo "numbers_of_words") rfl)
  have d_numbers_of_words : Dk R.prog w K mg base 2 "numbers_of_words" P_numbers_of_words (sp_numbers_of_words K) := ⟨_, fd_numbers_of_words, ok_numbers_of_words Q_numbers_of_words T d_number_of, b_numbers_of_words, g_numbers_of_words, F_numbers_of_words.kp⟩
  have Q_task_of : Fun K "task_of" "task_of" s_task_of _ fd_task_of := fun_of F_task_of
  have b_task_of : Binds K fd_task_of P_task_of [] := Q_task_of.binds fun _ _ _ _ _ _ us hl => match us, hl with | [_], _ => rfl
  have g_task_of := He.glo_ok X G (c.t.d.fact 12 (f := .glo "task_of") rfl)
  have d_task_of : Dk R.prog w K mg base 3 "task_of" P_task_of (sp_task_of K) := ⟨_, fd_task_of, ok_task_of Q_task_of T d_numbers_of_words, b_task_of, g_task_of, F_task_of.kp⟩
  have Q_Reader_take : Fun K "take" "Reader.take" s_Reader_take _ fd_Reader_take := fun_of F_Reader_take
  have b_Reader_take : Binds K fd_Reader_take P_Reader_take [] := Q_Reader_take.binds fun _ _ _ _ _ _ us hl => match us, hl with | [_, _], _ => rfl
  have d_Reader_take : Dm R.prog w K mg base 4 "Reader" "take" P_Reader_take (sp_Reader_take K) := ⟨_, fd_Reader_take, ok_Reader_take Q_Reader_take T MK d_numbers_of_words d_task_of, b_Reader_take, He.cls_ok (c.t.d.fact 27 (f := .cls "Reader") rfl), He.meth_ok (c.t.d.fact 28 (f := .meth "Reader" "take") rfl)⟩
  have Q_is_between : Fun K "is_between" "is_between" s_is_between _ fd_is_between := fun_of F_is_between
  have b_is_between : Binds K fd_is_between P_is_between [] := Q_is_between.binds fun _ _ _ _ _ _ us hl => match us, hl with | [_, _, _], _ => rfl
  have g_is_between := He.glo_ok X G (c.t.d.fact 13 (f := .glo "is_between") rfl)
  have d_is_between : Dk R.prog w K mg base 1 "is_between" P_is_between (sp_is_between K) := ⟨_, fd_is_between, ok_is_between Q_is_between T, b_is_between, g_is_between, F_is_between.kp⟩
  have Q_is_group : Fun K "is_group" "is_group" s_is_group _ fd_is_group := fun_of F_is_group
  have b_is_group : Binds K fd_is_group P_is_group [] := Q_is_group.binds fun _ _ _ _ _ _ us hl => match us, hl with | [_], _ => rfl
  have g_is_group := He.glo_ok X G (c.t.d.fact 14 (f := .glo "is_group") rfl)
  have d_is_group : Dk R.prog w K mg base 2 "is_group" P_is_group (sp_is_group K) := ⟨_, fd_is_group, ok_is_group Q_is_group T d_is_between, b_is_group, g_is_group, F_is_group.kp⟩
  have Q_need_tasks : Fun K "need_tasks" "need_tasks" s_need_tasks _ fd_need_tasks := fun_of F_need_tasks
  have b_need_tasks : Binds K fd_need_tasks P_need_tasks [] := Q_need_tasks.binds fun _ _ _ _ _ _ us hl => match us, hl with | [_, _], _ => rfl
  have g_need_tasks := He.glo_ok X G (c.t.d.fact 15 (f := .glo "need_tasks") rfl)
  have d_need_tasks : Dk R.prog w K mg base 3 "need_tasks" P_need_tasks (sp_need_tasks K) := ⟨_, fd_need_tasks, ok_need_tasks Q_need_tasks T d_is_between d_is_group, b_need_tasks, g_need_tasks, F_need_tasks.kp⟩
  have Q_need_contest : Fun K "need_contest" "need_contest" s_need_contest _ fd_need_contest := fun_of F_need_contest
  have b_need_contest : Binds K fd_need_contest P_need_contest [] := Q_need_contest.binds fun _ _ _ _ _ _ us hl => match us, hl with | [_], _ => rfl
  have g_need_contest := He.glo_ok X G (c.t.d.fact 16 (f := .glo "need_contest") rfl)
  have d_need_contest : Dk R.prog w K mg base 4 "need_contest" P_need_contest (sp_need_contest K) := ⟨_, fd_need_contest, ok_need_contest Q_need_contest T d_is_between d_need_tasks, b_need_contest, g_need_contest, F_need_contest.kp⟩
  have Q_is_try : Fun K "is_try" "is_try" s_is_try _ fd_is_try := fun_of F_is_try
  have b_is_try : Binds K fd_is_try P_is_try [] := Q_is_try.binds fun _ _ _ _ _ _ us hl => match us, hl with | [_, _], _ => rfl
  have g_is_try := He.glo_ok X G (c.t.d.fact 17 (f := .glo "is_try") rfl)
  have d_is_try : Dk R.prog w K mg base 2 "is_try" P_is_try (sp_is_try K) := ⟨_, fd_is_try, ok_is_try Q_is_try T d_is_between, b_is_try, g_is_try, F_is_try.kp⟩
  have Q_need_tries : Fun K "need_tries" "need_tries" s_need_tries _ fd_need_tries := fun_of F_need_tries
  have b_need_tries : Binds K fd_need_tries P_need_tries [] := Q_need_tries.binds fun _ _ _ _ _ _ us hl => match us, hl with | [_, _], _ => rfl
  have g_need_tries := He.glo_ok X G (c.t.d.fact 18 (f := .glo "need_tries") rfl)
  have d_need_tries : Dk R.prog w K mg base 3 "need_tries" P_need_tries (sp_need_tries K) := ⟨_, fd_need_tries, ok_need_tries Q_need_tries T d_is_try, b_need_tries, g_need_tries, F_need_tries.kp⟩
  have Q_trials_of : Fun K "trials_of" "trials_of" s_trials_of _ fd_trials_of := fun_of F_trials_of
  have b_trials_of : Binds K fd_trials_of P_trials_of [] := Q_trials_of.binds fun _ _ _ _ _ _ us hl => match us, hl with | [_, _], _ => rfl
  have g_trials_of := He.glo_ok X G (c.t.d.fact 19 (f := .glo "trials_of") rfl)
  have d_trials_of : Dk R.prog w K mg base 1 "trials_of" P_trials_of (sp_trials_of K) := ⟨_, fd_trials_of, ok_trials_of Q_trials_of T, b_trials_of, g_trials_of, F_trials_of.kp⟩
  have Q_is_verdict : Fun K "is_verdict" "is_verdict" s_is_verdict _ fd_is_verdict := fun_of F_is_verdict
  have b_is_verdict : Binds K fd_is_verdict P_is_verdict [] := Q_is_verdict.binds fun _ _ _ _ _ _ us hl => match us, hl with | [_, _, _], _ => rfl
  have g_is_verdict := He.glo_ok X G (c.t.d.fact 20 (f := .glo "is_verdict") rfl)
  have d_is_verdict : Dk R.prog w K mg base 2 "is_verdict" P_is_verdict (sp_is_verdict K) := ⟨_, fd_is_verdict, ok_is_verdict Q_is_verdict T d_is_between d_trials_of, b_is_verdict, g_is_verdict, F_is_verdict.kp⟩
  have Q_need_verdicts : Fun K "need_verdicts" "need_verdicts" s_need_verdicts _ fd_need_verdicts := fun_of F_need_verdicts
  have b_need_verdicts : Binds K fd_need_verdicts P_need_verdicts [] := Q_need_verdicts.binds fun _ _ _ _ _ _ us hl => match us, hl with | [_, _, _], _ => rfl
  have g_need_verdicts := He.glo_ok X G (c.t.d.fact 21 (f := .glo "need_verdicts") rfl)
  have d_need_verdicts : Dk R.prog w K mg base 3 "need_verdicts" P_need_verdicts (sp_need_verdicts K) := ⟨_, fd_need_verdicts, ok_need_verdicts Q_need_verdicts T d_is_verdict, b_need_verdicts, g_need_verdicts, F_need_verdicts.kp⟩
  have Q_need_all : Fun K "need_all" "need_all" s_need_all _ fd_need_all := fun_of F_need_all
  have b_need_all : Binds K fd_need_all P_need_all [] := Q_need_all.binds fun _ _ _ _ _ _ us hl => match us, hl with | [_, _, _], _ => rfl
  have g_need_all := He.glo_ok X G (c.t.d.fact 22 (f := .glo "need_all") rfl)
  have d_need_all : Dk R.prog w K mg base 5 "need_all" P_need_all (sp_need_all K) := ⟨_, fd_need_all, ok_need_all Q_need_all T d_need_contest d_need_tries d_need_verdicts, b_need_all, g_need_all, F_need_all.kp⟩
  have Q_read : Fun K "read" "read" s_read _ fd_read := fun_of F_read
  have b_read : Binds K fd_read P_read [] := Q_read.binds fun _ _ _ _ _ _ us hl => match us, hl with | [_], _ => rfl
  have g_read := He.glo_ok X G (c.t.d.fact 23 (f := .glo "read") rfl)
  have d_read : Dk R.prog w K mg base 6 "read" P_read (sp_read K) := ⟨_, fd_read, ok_read Q_read T d_Reader d_Reader_take d_need_all, b_read, g_read, F_read.kp⟩
  have Q_contest_rows : Fun K "contest_rows" "contest_rows" s_contest_rows _ fd_contest_rows := fun_of F_contest_rows
  have b_contest_rows : Binds K fd_contest_rows P_contest_rows [] := Q_contest_rows.binds fun _ _ _ _ _ _ us hl => match us, hl with | [_], _ => rfl
  have g_contest_rows := He.glo_ok X G (c.t.d.fact 24 (f := .glo "contest_rows") rfl)
  have d_contest_rows : Dk R.prog w K mg base 1 "contest_rows" P_contest_rows (sp_contest_rows K) := ⟨_, fd_contest_rows, ok_contest_rows Q_contest_rows T, b_contest_rows, g_contest_rows, F_contest_rows.kp⟩
  have Q_written : Fun K "written" "written" s_written _ fd_written := fun_of F_written
  have b_written : Binds K fd_written P_written [] := Q_written.binds fun _ _ _ _ _ _ us hl => match us, hl with | [_, _, _], _ => rfl
  have g_written := He.glo_ok X G (c.t.d.fact 25 (f := .glo "written") rfl)
  have d_written : Dk R.prog w K mg base 6 "written" P_written (sp_written K) := ⟨_, fd_written, ok_written Q_written T d_contest_rows d_need_all, b_written, g_written, F_written.kp⟩
  have Q_law : Fun K "law" "law" s_law _ fd_law := fun_of F_law
  exact ok_law Q_law T d__law_alike d__law_case d__law_dice d__law_off d__law_some d_read d_written
end J
open PySem PySem.W PySem.Calls PyProof.Rows in
set_option maxRecDepth 100000 in
set_option maxHeartbeats 0 in
theorem PySem.Challenge.cw_judgehall_k17_written_and_read_holds : PySem.Challenge.rw_judgehall_k17_written_and_read.Holds := by
  w_on; o_law
  refine HandSHeadRun.head_any (r := OpenLaw.row PySem.Challenge.rw_judgehall_k17_written_and_read) (q := view (OpenLaw.row PySem.Challenge.rw_judgehall_k17_written_and_read).prog [50]) (H := J.hk) (ob := J.ob) (M := 60000) (loose := J.loose) (d := HandSHeadRun.topDef (OpenLaw.row PySem.Challenge.rw_judgehall_k17_written_and_read).prog 50) (kwd := []) J.ob_eq
    (by kernel_rfl) (fun s => by kernel_rfl) J.run (by kernel_rfl) (by kernel_rfl) (by kernel_rfl) (by rfl) (by first | assumption | decide +kernel) (by decide +kernel) ⟨rfl, rfl, rfl, rfl, rfl, by decide +kernel⟩ ?hw ?hc
  case hw => w_witness2
  case hc =>
    refine LamX.walk_ofTsE (l := PySem.Challenge.rw_judgehall_k17_written_and_read) (n := 63) (k := 9) (x := "_law_script") (CX := fun _ => L2.CX0) rfl (by decide) (by kernel_rfl) ⟨rfl, by decide, by decide⟩ ?F (fun _ _ _ _ _ z => z)
    intro w mg fa h Y G hmg0
    obtain ⟨K, KX, c⟩ := Y
    have hmg : mg ("law" : PySem.Str) = some (.ref fa) := by
      have e : (HandSHeadRun.topDef (OpenLaw.row PySem.Challenge.rw_judgehall_k17_written_and_read).prog 50).name = ("law" : PySem.Str) := by kernel_rfl
      rw [← e]
      exact hmg0
    exact ⟨K, KX, J.facts KX G hmg c⟩
