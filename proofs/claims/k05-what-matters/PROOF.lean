import PyProof.Rows.All
import Wide.All
import OpenK.AllK
import Wide.FinOn
import HandS.ForMost
import HandS.Evl
import HandS.Walk
import HandS.IsInst
import KE.GoesMore
import KE.GoesEnum
import KE.KDictPairs
import KE.KDictKeyed
import KE.KDictSum
import HandS.Conv
import HandS.SortInts
import HandS.DictTup
import KE.KStateDown
import HandS.Base
import HandS.Call
import HandS.Ends
import HandS.More
import HandS.Words
import HandS.Defaults
import HandS.Head0
import HandS.Head1
import HandS.Head2
import HandS.HeadEnd
import HandS.HeadHook1
import HandS.HeadHook2
import PySem.Challenge.RW_judgehall_k05_what_matters
set_option Elab.async false
set_option linter.all false
set_option maxRecDepth 100000
set_option maxHeartbeats 4000000
/-! The base: data as trees (D), how a heap bears them (Rp), what an expression comes to (EvD ..). -/
namespace J
open PySem L2 Evl

/-! ### data -/
inductive D where
  | non
  | bl (b : Bool)
  | int (i : Int)
  | str (s : Str)
  | tup (ds : List D)
  | lst (ds : List D)
  | tab (kvs : List (List Key × V))
  | dic (kvs : List (Key × V))

mutual
inductive Rp (K : PySem.W.Frag) (H : Hp) : V → D → Prop
  | non : Rp K H .non .non
  | bl (b : Bool) : Rp K H (.bl b) (.bl b)
  | int (i : Int) : Rp K H (.int i) (.int i)
  | str (x : Str) : Rp K H (.str x) (.str x)
  | tup {a : Addr} {xs : List V} {ds : List D} : H a = some (.tup xs) → RpA K H xs ds → Rp K H (.ref a) (.tup ds)
  | lst {a : Addr} {xs : List V} {ds : List D} : H a = some (.lst xs) → RpA K H xs ds → Rp K H (.ref a) (.lst ds)
  | tab {a : Addr} {kvs : List (List Key × V)} : H a = some (.dT kvs) → Rp K H (.ref a) (.tab kvs)
  | dic {a : Addr} {kvs : List (Key × V)} : H a = some (.dK kvs) → Rp K H (.ref a) (.dic kvs)
inductive RpA (K : PySem.W.Frag) (H : Hp) : List V → List D → Prop
  | nil : RpA K H [] []
  | cons {v : V} {vs : List V} {d : D} {ds : List D} : Rp K H v d → RpA K H vs ds → RpA K H (v :: vs) (d :: ds)
end

section
variable {K : PySem.W.Frag} {H H' G G' : Hp}
mutual
theorem Rp.ex (e : Ex H H') : ∀ {d : D} {v : V}, Rp K H v d → Rp K H' v d
  | .non, _, h => by cases h; exact .non
  | .bl _, _, h => by cases h; exact .bl _
  | .int _, _, h => by cases h; exact .int _
  | .str _, _, h => by cases h; exact .str _
  | .tup _, _, h => by
    cases h with
    | tup hs ha => exact .tup (e _ _ hs) (RpA.ex e ha)
  | .lst _, _, h => by
    cases h with
    | lst hs ha => exact .lst (e _ _ hs) (RpA.ex e ha)
  | .tab _, _, h => by
    cases h with
    | tab hs => exact .tab (e _ _ hs)
  | .dic _, _, h => by
    cases h with
    | dic hs => exact .dic (e _ _ hs)
theorem RpA.ex (e : Ex H H') : ∀ {ds : List D} {vs : List V}, RpA K H vs ds → RpA K H' vs ds
  | [], _, h => by cases h; exact .nil
  | _ :: _, _, h => by
    cases h with
    | cons h1 h2 => exact .cons (Rp.ex e h1) (RpA.ex e h2)
end
theorem Rp.int_of {v : V} {i : Int} (h : Rp K H v (.int i)) : v = .int i := by cases h; rfl
theorem Rp.bl_of {v : V} {i : Bool} (h : Rp K H v (.bl i)) : v = .bl i := by cases h; rfl
theorem Rp.str_of {v : V} {i : Str} (h : Rp K H v (.str i)) : v = .str i := by cases h; rfl
theorem Rp.non_of {v : V} (h : Rp K H v .non) : v = .non := by cases h; rfl
theorem Rp.tup_of {v : V} {ds : List D} (h : Rp K H v (.tup ds)) : ∃ a xs, v = .ref a ∧ H a = some (.tup xs) ∧ RpA K H xs ds := by
  cases h with
  | tup hs ha => exact ⟨_, _, rfl, hs, ha⟩
theorem Rp.lst_of {v : V} {ds : List D} (h : Rp K H v (.lst ds)) : ∃ a xs, v = .ref a ∧ H a = some (.lst xs) ∧ RpA K H xs ds := by
  cases h with
  | lst hs ha => exact ⟨_, _, rfl, hs, ha⟩
theorem Rp.tab_of {v : V} {kvs : List (List Key × V)} (h : Rp K H v (.tab kvs)) : ∃ a, v = .ref a ∧ H a = some (.dT kvs) := by
  cases h with
  | tab hs => exact ⟨_, rfl, hs⟩
theorem Rp.dic_of {v : V} {kvs : List (Key × V)} (h : Rp K H v (.dic kvs)) : ∃ a, v = .ref a ∧ H a = some (.dK kvs) := by
  cases h with
  | dic hs => exact ⟨_, rfl, hs⟩
theorem RpA.len : ∀ {ds : List D} {vs : List V}, RpA K H vs ds → vs.length = ds.length
  | [], _, h => by cases h; rfl
  | _ :: _, _, h => by
    cases h with
    | cons h1 h2 => rw [List.length_cons, List.length_cons, RpA.len h2]
theorem RpA.get : ∀ {ds : List D} {vs : List V} {i : Nat} {v : V}, RpA K H vs ds → vs[i]? = some v → ∃ d, ds[i]? = some d ∧ Rp K H v d
  | [], _, i, v, h, e => by cases h; simp at e
  | d :: ds, _, 0, v, h, e => by
    cases h with
    | cons h1 h2 =>
      have q := Option.some.inj e
      subst q
      exact ⟨d, rfl, h1⟩
  | d :: ds, _, i + 1, v, h, e => by
    cases h with
    | cons h1 h2 => exact RpA.get (i := i) h2 e
theorem RpA.at {ds : List D} {vs : List V} {i : Nat} {d : D} (h : RpA K H vs ds) (e : ds[i]? = some d) : ∃ v, vs[i]? = some v ∧ Rp K H v d := by
  have hl : i < ds.length := (List.getElem?_eq_some_iff.mp e).1
  have hv : i < vs.length := by rw [h.len]; exact hl
  obtain ⟨d', e', r⟩ := h.get (List.getElem?_eq_getElem hv)
  rw [e] at e'
  cases Option.some.inj e'
  exact ⟨_, List.getElem?_eq_getElem hv, r⟩
theorem RpA.snoc : ∀ {ds : List D} {vs : List V} {v : V} {d : D}, RpA K H vs ds → Rp K H v d → RpA K H (vs ++ [v]) (ds ++ [d])
  | [], _, _, _, h, r => by cases h; exact .cons r .nil
  | _ :: _, _, _, _, h, r => by
    cases h with
    | cons h1 h2 => exact .cons h1 (RpA.snoc h2 r)
theorem RpA.app : ∀ {ds : List D} {vs ws : List V} {es : List D}, RpA K H vs ds → RpA K H ws es → RpA K H (vs ++ ws) (ds ++ es)
  | [], _, _, _, h, r => by cases h; exact r
  | _ :: _, _, _, _, h, r => by
    cases h with
    | cons h1 h2 => exact .cons h1 (RpA.app h2 r)
theorem RpA.take : ∀ {ds : List D} {vs : List V} (n : Nat), RpA K H vs ds → RpA K H (vs.take n) (ds.take n)
  | _, _, 0, _ => .nil
  | [], _, n + 1, h => by cases h; exact .nil
  | _ :: _, _, n + 1, h => by
    cases h with
    | cons h1 h2 => exact .cons h1 (RpA.take n h2)
theorem RpA.drop : ∀ {ds : List D} {vs : List V} (n : Nat), RpA K H vs ds → RpA K H (vs.drop n) (ds.drop n)
  | _, _, 0, h => h
  | [], _, n + 1, h => by cases h; exact .nil
  | _ :: _, _, n + 1, h => by
    cases h with
    | cons h1 h2 => exact RpA.drop n h2
theorem RpA.erase : ∀ {ds : List D} {vs : List V} (n : Nat), RpA K H vs ds → RpA K H (vs.eraseIdx n) (ds.eraseIdx n)
  | [], _, n, h => by cases h; exact .nil
  | _ :: _, _, 0, h => by
    cases h with
    | cons h1 h2 => exact h2
  | _ :: _, _, n + 1, h => by
    cases h with
    | cons h1 h2 => exact .cons h1 (RpA.erase n h2)
theorem RpA.ints : ∀ {ns : List Int} {vs : List V}, RpA K H vs (ns.map D.int) → vs = ns.map V.int
  | [], _, h => by cases h; rfl
  | n :: ns, _, h => by
    cases h with
    | cons h1 h2 =>
      cases h1
      rw [RpA.ints h2]
      rfl
theorem RpA.of_ints : ∀ {ns : List Int}, RpA K H (ns.map V.int) (ns.map D.int)
  | [] => .nil
  | _ :: _ => .cons (.int _) RpA.of_ints

/-! ### data without tables, as PyData -/
mutual
def D.py : D → PyData
  | .non => .none
  | .bl b => .bool b
  | .int i => .int i
  | .str s => .str s
  | .tup ds => .tuple (D.pyA ds)
  | .lst ds => .list (D.pyA ds)
  | .tab _ => .none
  | .dic _ => .none
def D.pyA : List D → List PyData
  | [] => []
  | d :: ds => d.py :: D.pyA ds
end
mutual
def D.plain : D → Bool
  | .tup ds => D.plainA ds
  | .lst ds => D.plainA ds
  | .tab _ => false
  | .dic _ => false
  | _ => true
def D.plainA : List D → Bool
  | [] => true
  | d :: ds => d.plain && D.plainA ds
end
mutual
theorem Rp.dp : ∀ {d : D} {v : V}, Rp K H v d → d.plain = true → Dp K H v d.py
  | .non, _, h, _ => by cases h; exact .non
  | .bl _, _, h, _ => by cases h; exact .bl _
  | .int _, _, h, _ => by cases h; exact .int _
  | .str _, _, h, _ => by cases h; exact .str _
  | .tup _, _, h, p => by
    cases h with
    | tup hs ha => exact .tup (.of hs) (RpA.dp ha p)
  | .lst _, _, h, p => by
    cases h with
    | lst hs ha => exact .lst (.of hs) (RpA.dp ha p)
  | .tab _, _, h, p => by cases p
  | .dic _, _, h, p => by cases p
theorem RpA.dp : ∀ {ds : List D} {vs : List V}, RpA K H vs ds → D.plainA ds = true → DpAll K H vs (D.pyA ds)
  | [], _, h, _ => by cases h; exact .nil
  | d :: ds, _, h, p => by
    cases h with
    | cons h1 h2 =>
      have q : (d.plain && D.plainA ds) = true := p
      rw [Bool.and_eq_true] at q
      exact .cons (Rp.dp h1 q.1) (RpA.dp h2 q.2)
end
end

/-! ### a step: G the part that never changes any more, H the heap -/
def isTup : HO → Bool
  | .tup _ => true
  | _ => false
structure Step (G H G' H' : Hp) : Prop where
  g : Ex G G'
  i : Ex G' H'
  h : Ex H H'
  n : ∀ b o, G b = none → H b = some o → isTup o = false → G' b = none
section
variable {K : PySem.W.Frag} {G H G1 H1 G2 H2 : Hp}
theorem Step.refl (e : Ex G H) : Step G H G H := ⟨Ex.refl _, e, Ex.refl _, fun _ _ h _ _ => h⟩
theorem Step.trans (a : Step G H G1 H1) (b : Step G1 H1 G2 H2) : Step G H G2 H2 :=
  ⟨a.g.trans b.g, b.i, a.h.trans b.h, fun x o h1 h2 h3 => b.n x o (a.n x o h1 h2 h3) (a.h x o h2) h3⟩
theorem Step.back {p : Addr} (e : Ex G H) (h : H p = none) : G p = none := by
  cases q : G p with
  | none => rfl
  | some u => rw [e p u q] at h; cases h
/-- a new object that stays as it is -/
theorem Step.new {p : Addr} {o : HO} (e : Ex G H) (h : H p = none) : Step G H (upd G p o) (upd H p o) :=
  ⟨Ex.new (Step.back e h), fun b u hb => by
    by_cases z : b = p
    · subst z; rw [upd_same] at hb; rw [upd_same]; exact hb
    · rw [upd_ne z] at hb; rw [upd_ne z]; exact e b u hb, Ex.new h, fun b u h1 h2 _ => by
    by_cases z : b = p
    · subst z; rw [h] at h2; cases h2
    · rw [upd_ne z]; exact h1⟩
/-- a new object that may change yet -/
theorem Step.own {p : Addr} {o : HO} (e : Ex G H) (h : H p = none) : Step G H G (upd H p o) :=
  ⟨Ex.refl _, e.trans (Ex.new h), Ex.new h, fun _ _ h _ _ => h⟩
/-- an own object changes -/
theorem Step.mut {p : Addr} {o : HO} (s : Step G H G1 H1) (h : H p = none) (g : G1 p = none) : Step G H G1 (upd H1 p o) :=
  ⟨s.g, Ex.mut s.i g, Ex.mut s.h h, s.n⟩
/-- an own object changes no more -/
theorem Step.freeze {p : Addr} {o : HO} (s : Step G H G1 H1) (h : H p = none) (g : G1 p = none) (x : H1 p = some o) : Step G H (upd G1 p o) H1 :=
  ⟨s.g.trans (Ex.new g), fun b u hb => by
    by_cases z : b = p
    · subst z; rw [upd_same] at hb; cases hb; exact x
    · rw [upd_ne z] at hb; exact s.i b u hb, s.h, fun b u h1 h2 h3 => by
    by_cases z : b = p
    · subst z; rw [h] at h2; cases h2
    · rw [upd_ne z]; exact s.n b u h1 h2 h3⟩
/-- a tuple never changes -/
theorem Step.tup {p : Addr} {xs : List V} (e : Ex G H) (x : H p = some (.tup xs)) : Step G H (upd G p (.tup xs)) H :=
  ⟨fun b u hb => by
    by_cases z : b = p
    · subst z
      rw [e b u hb] at x
      rw [upd_same]
      exact x.symm
    · rw [upd_ne z]; exact hb, fun b u hb => by
    by_cases z : b = p
    · subst z; rw [upd_same] at hb; cases hb; exact x
    · rw [upd_ne z] at hb; exact e b u hb, Ex.refl _, fun b u h1 h2 h3 => by
    by_cases z : b = p
    · subst z; rw [x] at h2; cases h2; cases h3
    · rw [upd_ne z]; exact h1⟩
/-- an own object through a step -/
theorem Step.keep {p : Addr} {o : HO} (s : Step G H G1 H1) (g : G p = none) (x : H p = some o) (t : isTup o = false := by rfl) : G1 p = none ∧ H1 p = some o :=
  ⟨s.n p o g x t, s.h p o x⟩
theorem Step.pre {p : Addr} (s : Step G H G1 H1) (h : H1 p = none) : H p = none := fresh_back s.h h
theorem Step.ex {H0 : Hp} (e : Ex H0 H) (s : Step G H G1 H1) : Ex H0 H1 := e.trans s.h
end

/-! ### what an expression comes to -/
section
variable (K : PySem.W.Frag)
def EvD (te : TE) (σ : L2.St) (G : Hp) (d : D) : Prop := ∀ H, Ex G H → ∀ Q : VK, (∀ v G' H', Step G H G' H' → Rp K G' v d → Q v H') → te σ H Q
/-- a new list -/
def EvF (te : TE) (σ : L2.St) (G : Hp) (ds : List D) : Prop := ∀ H, Ex G H → ∀ Q : VK, (∀ p xs G' H', Step G H G' H' → H p = none → G' p = none → H' p = some (.lst xs) → RpA K G' xs ds → Q (.ref p) H') → te σ H Q
def EvB (tt : TT) (σ : L2.St) (G : Hp) (b : Bool) : Prop := ∀ H, Ex G H → ∀ Q : Bool → Hp → Prop, (∀ G' H', Step G H G' H' → Q b H') → tt σ H Q
def EvAs (ta : TA) (σ : L2.St) (G : Hp) (ds : List D) : Prop := ∀ H, Ex G H → ∀ Q : List V → Hp → Prop, (∀ vs G' H', Step G H G' H' → RpA K G' vs ds → Q vs H') → ta σ H Q
def EvP (to : TO) (σ : L2.St) (G : Hp) (o : Option Int) : Prop := ∀ H, Ex G H → ∀ Q : Option Int → Hp → Prop, (∀ G' H', Step G H G' H' → Q o H') → to σ H Q
end
theorem Step.widen {G H G' H' G1 : Hp} (e : Ex G G1) (a : Ex G1 H) (s : Step G H G' H') : ∃ G2, Step G1 H G2 H' ∧ Ex G' G2 ∧ ∀ b, H b = none → G' b = none → G2 b = none := by
  refine ⟨fun b => match G1 b with | some o => some o | none => G' b, ⟨fun b o hb => ?_, fun b o hb => ?_, s.h, fun b u h1 h2 h3 => ?_⟩, fun b o hb => ?_, fun b h1 h2 => ?_⟩
  · show (match G1 b with | some o => some o | none => G' b) = some o
    rw [hb]
  · have hb' : (match G1 b with | some o => some o | none => G' b) = some o := hb
    cases q1 : G1 b with
    | some u => rw [q1] at hb'; cases hb'; exact s.h b _ (a b _ q1)
    | none => rw [q1] at hb'; exact s.i b o hb'
  · show (match G1 b with | some o => some o | none => G' b) = none
    rw [h1]
    exact s.n b u (Step.back e h1) h2 h3
  · show (match G1 b with | some o => some o | none => G' b) = some o
    cases q1 : G1 b with
    | none => exact hb
    | some u =>
      have w1 := s.h b u (a b u q1)
      have w2 := s.i b o hb
      rw [w1] at w2
      exact w2
  · show (match G1 b with | some o => some o | none => G' b) = none
    rw [Step.back a h1]
    exact h2

section
variable {K : PySem.W.Frag} {σ : L2.St} {G G1 H : Hp} {ta tb tc te tx : TE} {t u : TT} {x y z v : V} {d d1 d2 d3 : D} {ds es : List D} {as bs : TA} {i j k n m : Int} {a b c : Bool}
theorem EvD.mono (e : Ex G G1) (h : EvD K te σ G d) : EvD K te σ G1 d := fun H a Q q => h H (e.trans a) Q fun v G' H' s r => by
  obtain ⟨G2, s2, e2, _⟩ := s.widen e a
  exact q v G2 H' s2 (r.ex e2)
theorem EvF.mono (e : Ex G G1) (h : EvF K te σ G ds) : EvF K te σ G1 ds := fun H a Q q => h H (e.trans a) Q fun p xs G' H' s h1 h2 h3 r => by
  obtain ⟨G2, s2, e2, n2⟩ := s.widen e a
  exact q p xs G2 H' s2 h1 (n2 p h1 h2) h3 (r.ex e2)
theorem EvB.mono {b : Bool} (e : Ex G G1) (h : EvB t σ G b) : EvB t σ G1 b := fun H a Q q => h H (e.trans a) Q fun G' H' s => by
  obtain ⟨G2, s2, e2, n2⟩ := s.widen e a
  exact q G2 H' s2
theorem EvAs.mono (e : Ex G G1) (h : EvAs K as σ G ds) : EvAs K as σ G1 ds := fun H a Q q => h H (e.trans a) Q fun v G' H' s r => by
  obtain ⟨G2, s2, e2, _⟩ := s.widen e a
  exact q v G2 H' s2 (r.ex e2)
/-- a new list, as data -/
theorem EvF.toD (h : EvF K te σ G ds) : EvD K te σ G (.lst ds) := fun H a Q q => h H a Q fun p xs G' H' s h1 h2 h3 r =>
  q _ _ H' (s.freeze h1 h2 h3) (.lst upd_same (r.ex (Ex.new h2)))
theorem EvD.eq (h : EvD K te σ G d) (e : d = d1) : EvD K te σ G d1 := e ▸ h
theorem EvF.eq (h : EvF K te σ G ds) (e : ds = es) : EvF K te σ G es := e ▸ h
theorem EvB.eq (h : EvB t σ G a) (e : a = b) : EvB t σ G b := e ▸ h

/-! #### names, constants -/
theorem e_var {i : Nat} (h : σ[i]? = some (some v)) (r : Rp K G v d) : EvD K (tVar i) σ G d := fun H e Q q => ⟨v, h, q v G H (Step.refl e) r⟩
theorem e_int {i : Int} : EvD K (tC (.int i)) σ G (.int i) := fun H e Q q => q _ G H (Step.refl e) (.int i)
theorem e_bl {b : Bool} : EvD K (tC (.bl b)) σ G (.bl b) := fun H e Q q => q _ G H (Step.refl e) (.bl b)
theorem e_str {x : Str} : EvD K (tC (.str x)) σ G (.str x) := fun H e Q q => q _ G H (Step.refl e) (.str x)
theorem e_non : EvD K (tC .non) σ G .non := fun H e Q q => q _ G H (Step.refl e) .non
theorem e_c (r : Rp K G v d) : EvD K (tC v) σ G d := fun H e Q q => q _ G H (Step.refl e) r

/-! #### two values, an operation on values -/
theorem e_op {r : R2} (ha : EvD K ta σ G d1) (hb : EvD K tb σ G d2) (hr : ∀ x y G1 H1 Q, Ex G G1 → Ex G1 H1 → Rp K G1 x d1 → Rp K G1 y d2 → (∀ v G2 H2, Step G1 H1 G2 H2 → Rp K G2 v d → Q v H2) → r x y H1 Q) : EvD K (tOp r ta tb) σ G d := fun H e Q q =>
  ha H e _ fun x G1 H1 s1 r1 => (hb.mono s1.g) H1 s1.i _ fun y G2 H2 s2 r2 => hr x y G2 H2 Q (s1.g.trans s2.g) s2.i (r1.ex s2.g) r2 fun v G3 H3 s3 r3 => q v G3 H3 ((s1.trans s2).trans s3) r3
theorem e_I0 {g : Int → Int → V} (ha : EvD K ta σ G (.int i)) (hb : EvD K tb σ G (.int j)) (hg : ∀ H, Rp K H (g i j) d) : EvD K (tOp (rI0 g) ta tb) σ G d :=
  e_op ha hb fun x y G1 H1 Q e1 e2 r1 r2 q => ⟨i, j, r1.int_of, r2.int_of, q _ G1 H1 (Step.refl e2) (hg _)⟩
theorem e_I {C : Int → Int → Prop} {g : Int → Int → V} (ha : EvD K ta σ G (.int i)) (hb : EvD K tb σ G (.int j)) (hc : C i j) (hg : ∀ H, Rp K H (g i j) d) : EvD K (tOp (rI C g) ta tb) σ G d :=
  e_op ha hb fun x y G1 H1 Q e1 e2 r1 r2 q => ⟨i, j, r1.int_of, r2.int_of, hc, q _ G1 H1 (Step.refl e2) (hg _)⟩
theorem e_add (ha : EvD K ta σ G (.int i)) (hb : EvD K tb σ G (.int j)) : EvD K (tOp (rI0 fun i j => .int (i + j)) ta tb) σ G (.int (i + j)) := e_I0 ha hb fun _ => .int _
theorem e_sub (ha : EvD K ta σ G (.int i)) (hb : EvD K tb σ G (.int j)) : EvD K (tOp (rI0 fun i j => .int (i - j)) ta tb) σ G (.int (i - j)) := e_I0 ha hb fun _ => .int _
theorem e_mul (ha : EvD K ta σ G (.int i)) (hb : EvD K tb σ G (.int j)) (hc : CMul i j) : EvD K (tOp (rI CMul fun i j => .int (i * j)) ta tb) σ G (.int (i * j)) := e_I ha hb hc fun _ => .int _
theorem e_mod (ha : EvD K ta σ G (.int i)) (hb : EvD K tb σ G (.int j)) (hc : 0 < j) : EvD K (tOp (rI (fun _ j => 0 < j) fun i j => .int (i % j)) ta tb) σ G (.int (i % j)) := e_I ha hb hc fun _ => .int _
theorem e_fdiv (ha : EvD K ta σ G (.int i)) (hb : EvD K tb σ G (.int j)) (hc : CDiv i j) : EvD K (tOp (rI CDiv fun i j => .int (i / j)) ta tb) σ G (.int (i / j)) := e_I ha hb hc fun _ => .int _
theorem e_pow (ha : EvD K ta σ G (.int i)) (hb : EvD K tb σ G (.int j)) (hc : CPow i j) : EvD K (tOp (rI CPow fun i j => .int (i ^ j.toNat)) ta tb) σ G (.int (i ^ j.toNat)) := e_I ha hb hc fun _ => .int _
theorem e_lt (ha : EvD K ta σ G (.int i)) (hb : EvD K tb σ G (.int j)) : EvD K (tOp (rI0 fun i j => .bl (decide (i < j))) ta tb) σ G (.bl (decide (i < j))) := e_I0 ha hb fun _ => .bl _
theorem e_le (ha : EvD K ta σ G (.int i)) (hb : EvD K tb σ G (.int j)) : EvD K (tOp (rI0 fun i j => .bl (decide (i ≤ j))) ta tb) σ G (.bl (decide (i ≤ j))) := e_I0 ha hb fun _ => .bl _
theorem e_gt (ha : EvD K ta σ G (.int i)) (hb : EvD K tb σ G (.int j)) : EvD K (tOp (rI0 fun i j => .bl (decide (j < i))) ta tb) σ G (.bl (decide (j < i))) := e_I0 ha hb fun _ => .bl _
theorem e_ge (ha : EvD K ta σ G (.int i)) (hb : EvD K tb σ G (.int j)) : EvD K (tOp (rI0 fun i j => .bl (decide (j ≤ i))) ta tb) σ G (.bl (decide (j ≤ i))) := e_I0 ha hb fun _ => .bl _
theorem e_addS {p q : Str} (ha : EvD K ta σ G (.str p)) (hb : EvD K tb σ G (.str q)) (hl : p.length + q.length ≤ sizeLine) :
    EvD K (tOp (fun x y H Q => ∃ i j, x = .str i ∧ y = .str j ∧ i.length + j.length ≤ sizeLine ∧ Q (.str (i ++ j)) H) ta tb) σ G (.str (p ++ q)) :=
  e_op ha hb fun x y G1 H1 Q e1 e2 r1 r2 k => ⟨p, q, r1.str_of, r2.str_of, hl, k _ G1 H1 (Step.refl e2) (.str _)⟩

/-! #### == and != -/
def rEqA (K : PySem.W.Frag) : R2 := fun x y H Q => rEq x y H Q ∨ rEqD K x y H Q
def rNeA (K : PySem.W.Frag) : R2 := fun x y H Q => rNe x y H Q ∨ rNeD K x y H Q
theorem op_eqA {X : Cx} (hu : X.A.units + 64 < cLine) : OpR X (compareOp .Eq) (rEqA X.K) := op_eq.or (op_eqD hu)
theorem op_neA {X : Cx} (hu : X.A.units + 64 < cLine) : OpR X (compareOp .NotEq) (rNeA X.K) := op_ne.or (op_neD hu)
def D.eqS : D → D → Option Bool
  | .int i, .int j => some (decide (i = j))
  | .str i, .str j => some (decide (i = j))
  | .bl i, .bl j => some (decide (i = j))
  | _, _ => none
theorem dec_iff {p q : Prop} [Decidable p] [Decidable q] (h : p ↔ q) : decide p = decide q := by
  by_cases hp : p
  · rw [decide_eq_true hp, decide_eq_true (h.mp hp)]
  · rw [decide_eq_false hp, decide_eq_false (fun z => hp (h.mpr z))]
theorem eqS_scal {r : Bool} (r1 : Rp K G x d1) (r2 : Rp K G y d2) (h : d1.eqS d2 = some r) : scal x y = true ∧ decide (x = y) = r := by
  cases r1 <;> cases r2 <;> first | cases h | skip
  · exact ⟨rfl, dec_iff ⟨fun h => V.bl.inj h, fun h => congrArg _ h⟩⟩
  · exact ⟨rfl, dec_iff ⟨fun h => V.int.inj h, fun h => congrArg _ h⟩⟩
  · exact ⟨rfl, dec_iff ⟨fun h => V.str.inj h, fun h => congrArg _ h⟩⟩
theorem e_eq {r : Bool} (ha : EvD K ta σ G d1) (hb : EvD K tb σ G d2) (h : d1.eqS d2 = some r) : EvD K (tOp (rEqA K) ta tb) σ G (.bl r) :=
  e_op ha hb fun x y G1 H1 Q e1 e2 r1 r2 k => by
    obtain ⟨h1, h2⟩ := eqS_scal r1 r2 h
    refine .inl ⟨h1, ?_⟩
    rw [h2]
    exact k _ G1 H1 (Step.refl e2) (.bl _)
theorem e_ne {r : Bool} (ha : EvD K ta σ G d1) (hb : EvD K tb σ G d2) (h : d1.eqS d2 = some r) : EvD K (tOp (rNeA K) ta tb) σ G (.bl (!r)) :=
  e_op ha hb fun x y G1 H1 Q e1 e2 r1 r2 k => by
    obtain ⟨h1, h2⟩ := eqS_scal r1 r2 h
    refine .inl ⟨h1, ?_⟩
    rw [h2]
    exact k _ G1 H1 (Step.refl e2) (.bl _)
def D.ok (d : D) : Bool := d.plain && SeqAt.shaped d.py
theorem e_eqD (ha : EvD K ta σ G d1) (hb : EvD K tb σ G d2) (h1 : d1.ok = true) (h2 : d2.ok = true) : EvD K (tOp (rEqA K) ta tb) σ G (.bl (PyData.eqv d1.py d2.py)) :=
  e_op ha hb fun x y G1 H1 Q e1 e2 r1 r2 k => by
    have q1 := (Bool.and_eq_true _ _).mp h1
    have q2 := (Bool.and_eq_true _ _).mp h2
    exact .inr ⟨_, _, (r1.ex e2).dp q1.1, (r2.ex e2).dp q2.1, q1.2, q2.2, k _ G1 H1 (Step.refl e2) (.bl _)⟩
theorem e_neD (ha : EvD K ta σ G d1) (hb : EvD K tb σ G d2) (h1 : d1.ok = true) (h2 : d2.ok = true) : EvD K (tOp (rNeA K) ta tb) σ G (.bl (!PyData.eqv d1.py d2.py)) :=
  e_op ha hb fun x y G1 H1 Q e1 e2 r1 r2 k => by
    have q1 := (Bool.and_eq_true _ _).mp h1
    have q2 := (Bool.and_eq_true _ _).mp h2
    exact .inr ⟨_, _, (r1.ex e2).dp q1.1, (r2.ex e2).dp q2.1, q1.2, q2.2, k _ G1 H1 (Step.refl e2) (.bl _)⟩
theorem e_isN (ha : EvD K ta σ G d) (h : b = (match d with | .non => true | _ => false)) : EvD K (tOp (fun x y H Q => y = .non ∧ Q (.bl (decide (x = .non))) H) ta (tC .non)) σ G (.bl b) :=
  e_op (d2 := .non) ha e_non fun x y G1 H1 Q e1 e2 r1 r2 k => ⟨r2.non_of, by
    have z : decide (x = .non) = b := by subst h; cases r1 <;> rfl
    rw [z]
    exact k _ G1 H1 (Step.refl e2) (.bl _)⟩
theorem e_notN (ha : EvD K ta σ G d) (h : b = (match d with | .non => false | _ => true)) : EvD K (tOp (fun x y H Q => y = .non ∧ Q (.bl (!decide (x = .non))) H) ta (tC .non)) σ G (.bl b) :=
  e_op (d2 := .non) ha e_non fun x y G1 H1 Q e1 e2 r1 r2 k => ⟨r2.non_of, by
    have z : (!decide (x = .non)) = b := by subst h; cases r1 <;> rfl
    rw [z]
    exact k _ G1 H1 (Step.refl e2) (.bl _)⟩

/-! #### items, slices, in -/
def D.at (d : D) (i : Int) : Option D := match d with
  | .tup ds => atI ds i
  | .lst ds => atI ds i
  | _ => none
theorem atI_rp {xs : List V} (r : RpA K H xs ds) (h : atI ds i = some d) : ∃ v, atI xs i = some v ∧ Rp K H v d := by
  unfold atI at h ⊢
  rw [r.len]
  cases q : ixN ds.length i with
  | none => rw [q] at h; cases h
  | some j =>
    rw [q] at h
    exact r.at h
theorem e_ix (ha : EvD K ta σ G d1) (hb : EvD K tb σ G (.int i)) (h : d1.at i = some d) : EvD K (tOp (rIx K) ta tb) σ G d :=
  e_op ha hb fun x y G1 H1 Q e1 e2 r1 r2 k => by
    cases d1 with
    | tup ds =>
      obtain ⟨a, xs, rfl, hs, ha⟩ := r1.tup_of
      obtain ⟨v, hv, rv⟩ := atI_rp ha h
      exact .inr (.inl ⟨a, xs, i, v, rfl, r2.int_of, .of (e2 _ _ hs), hv, k v G1 H1 (Step.refl e2) rv⟩)
    | lst ds =>
      obtain ⟨a, xs, rfl, hs, ha⟩ := r1.lst_of
      obtain ⟨v, hv, rv⟩ := atI_rp ha h
      exact .inl ⟨a, xs, i, v, rfl, r2.int_of, .of (e2 _ _ hs), hv, k v G1 H1 (Step.refl e2) rv⟩
    | _ => cases h
theorem p_none : EvP tNoPart σ G none := fun H e Q q => q G H (Step.refl e)
theorem p_some (h : EvD K te σ G (.int i)) : EvP (tPart te) σ G (some i) := fun H e Q q => h H e _ fun v G1 H1 s r => ⟨i, r.int_of, q G1 H1 s⟩
theorem EvP.mono {to : TO} {o : Option Int} (e : Ex G G1) (h : EvP to σ G o) : EvP to σ G1 o := fun H a Q q => h H (e.trans a) Q fun G' H' s => by
  obtain ⟨G2, s2, e2, n2⟩ := s.widen e a
  exact q G2 H' s2
def cutD (ds : List D) (lo hi : Option Int) : List D := (ds.drop (HT.sIx ds.length 0 lo)).take (HT.sIx ds.length ds.length hi - HT.sIx ds.length 0 lo)
theorem RpA.cut {xs : List V} (r : RpA K H xs ds) (lo hi : Option Int) : RpA K H (cutV xs lo hi) (cutD ds lo hi) := by
  unfold cutV cutD
  rw [r.len]
  exact (r.drop _).take _
def rSlA (K : PySem.W.Frag) : V → Option Int → Option Int → Hp → VK → Prop := fun x lo hi H Q => rSlL K x lo hi H Q ∨ rSlT K x lo hi H Q
theorem sl_seq {X : Cx} : SlR X (rSlA X.K) := sl_list.or sl_tup
theorem f_sl {tl th : TO} {lo hi : Option Int} (h : EvD K te σ G (.lst ds)) (h1 : EvP tl σ G lo) (h2 : EvP th σ G hi) : EvF K (tSl (rSlA K) te tl th) σ G (cutD ds lo hi) := fun H e Q q =>
  h H e _ fun v G1 H1 s1 r1 => (h1.mono s1.g) H1 s1.i _ fun G2 H2 s2 => (h2.mono (s1.g.trans s2.g)) H2 s2.i _ fun G3 H3 s3 => by
    obtain ⟨a, xs, rfl, hs, ha⟩ := (r1.ex (s2.g.trans s3.g)).lst_of
    have s := (s1.trans s2).trans s3
    exact .inl ⟨a, xs, rfl, .of (s3.i _ _ hs), fun p hp => q p _ G3 _ (s.trans (Step.own s3.i hp)) (s.pre hp) (Step.back s3.i hp) upd_same (ha.cut lo hi)⟩
theorem e_slT {tl th : TO} {lo hi : Option Int} (h : EvD K te σ G (.tup ds)) (h1 : EvP tl σ G lo) (h2 : EvP th σ G hi) (hw : ¬ (HT.sIx ds.length 0 lo = 0 ∧ HT.sIx ds.length ds.length hi = ds.length)) (hd : cutD ds lo hi = es) : EvD K (tSl (rSlA K) te tl th) σ G (.tup es) := fun H e Q q =>
  h H e _ fun v G1 H1 s1 r1 => (h1.mono s1.g) H1 s1.i _ fun G2 H2 s2 => (h2.mono (s1.g.trans s2.g)) H2 s2.i _ fun G3 H3 s3 => by
    obtain ⟨a, xs, rfl, hs, ha⟩ := (r1.ex (s2.g.trans s3.g)).tup_of
    have s := (s1.trans s2).trans s3
    subst hd
    refine .inr ⟨a, xs, rfl, .of (s3.i _ _ hs), by rw [ha.len]; exact hw, fun p hp => q _ _ _ (s.trans (Step.new s3.i hp)) (.tup upd_same ((ha.cut lo hi).ex (Ex.new (Step.back s3.i hp))))⟩
theorem EvP.mono' {to : TO} {o : Option Int} (e : Ex G G1) (h : EvP to σ G o) : EvP to σ G1 o := EvP.mono e h

/-! #### in, not in: over flat items -/
def D.flat : D → Bool
  | .int _ => true
  | .str _ => true
  | .bl _ => true
  | .non => true
  | _ => false
def D.toV : D → V
  | .int i => .int i
  | .str i => .str i
  | .bl i => .bl i
  | _ => .non
theorem Rp.flat (r : Rp K H v d) (h : d.flat = true) : v = d.toV ∧ flatV v = true := by
  cases r <;> first | exact ⟨rfl, rfl⟩ | cases h
theorem RpA.flat : ∀ {ds : List D} {vs : List V}, RpA K H vs ds → ds.all D.flat = true → vs = ds.map D.toV ∧ vs.all flatV = true
  | [], _, h, _ => by cases h; exact ⟨rfl, rfl⟩
  | d :: ds, _, h, p => by
    cases h with
    | cons h1 h2 =>
      rw [List.all_cons, Bool.and_eq_true] at p
      obtain ⟨q1, q2⟩ := h1.flat p.1
      obtain ⟨q3, q4⟩ := RpA.flat h2 p.2
      refine ⟨by rw [List.map_cons, ← q1, ← q3], ?_⟩
      rw [List.all_cons, q2, q4]
      rfl
def D.items : D → List D
  | .tup ds => ds
  | .lst ds => ds
  | _ => []
def D.isSeq : D → Bool
  | .tup _ => true
  | .lst _ => true
  | _ => false
def inD (d : D) (ds : List D) : Bool := inV d.toV (ds.map D.toV)
theorem e_in (ha : EvD K ta σ G d1) (hb : EvD K tb σ G d2) (h0 : d2.isSeq = true) (h1 : d1.flat = true) (h2 : d2.items.all D.flat = true) : EvD K (tOp (rIn K false) ta tb) σ G (.bl (inD d1 d2.items)) :=
  e_op ha hb fun x y G1 H1 Q e1 e2 r1 r2 k => by
    obtain ⟨q1, q2⟩ := r1.flat h1
    cases d2 with
    | tup ds =>
      obtain ⟨a, xs, rfl, hs, ha⟩ := r2.tup_of
      obtain ⟨q3, q4⟩ := ha.flat h2
      refine ⟨a, xs, rfl, .inr (.of (e2 _ _ hs)), q2, q4, ?_⟩
      subst q1 q3
      exact k _ G1 H1 (Step.refl e2) (.bl _)
    | lst ds =>
      obtain ⟨a, xs, rfl, hs, ha⟩ := r2.lst_of
      obtain ⟨q3, q4⟩ := ha.flat h2
      refine ⟨a, xs, rfl, .inl (.of (e2 _ _ hs)), q2, q4, ?_⟩
      subst q1 q3
      exact k _ G1 H1 (Step.refl e2) (.bl _)
    | _ => cases h0
theorem e_nin (ha : EvD K ta σ G d1) (hb : EvD K tb σ G d2) (h0 : d2.isSeq = true) (h1 : d1.flat = true) (h2 : d2.items.all D.flat = true) : EvD K (tOp (rIn K true) ta tb) σ G (.bl (!inD d1 d2.items)) :=
  e_op ha hb fun x y G1 H1 Q e1 e2 r1 r2 k => by
    obtain ⟨q1, q2⟩ := r1.flat h1
    cases d2 with
    | tup ds =>
      obtain ⟨a, xs, rfl, hs, ha⟩ := r2.tup_of
      obtain ⟨q3, q4⟩ := ha.flat h2
      refine ⟨a, xs, rfl, .inr (.of (e2 _ _ hs)), q2, q4, ?_⟩
      subst q1 q3
      exact k _ G1 H1 (Step.refl e2) (.bl _)
    | lst ds =>
      obtain ⟨a, xs, rfl, hs, ha⟩ := r2.lst_of
      obtain ⟨q3, q4⟩ := ha.flat h2
      refine ⟨a, xs, rfl, .inl (.of (e2 _ _ hs)), q2, q4, ?_⟩
      subst q1 q3
      exact k _ G1 H1 (Step.refl e2) (.bl _)
    | _ => cases h0

/-! #### displays, arguments -/
theorem a_nil : EvAs K tNil σ G [] := fun H e Q q => q [] G H (Step.refl e) .nil
theorem a_cons (h : EvD K te σ G d) (hr : EvAs K as σ G ds) : EvAs K (tCons te as) σ G (d :: ds) := fun H e Q q =>
  h H e _ fun v G1 H1 s1 r1 => (hr.mono s1.g) H1 s1.i _ fun vs G2 H2 s2 r2 => q _ G2 H2 (s1.trans s2) (.cons (r1.ex s2.g) r2)
theorem a_one (h : EvD K te σ G d) : EvAs K (tCons te tNil) σ G [d] := a_cons h a_nil
theorem e_tup (h : EvAs K as σ G ds) (hl : ds.length ≤ 100000) : EvD K (tTup as) σ G (.tup ds) := fun H e Q q =>
  h H e _ fun vs G1 H1 s1 r1 => ⟨by rw [r1.len]; exact sz_of hl, fun p hp => q _ _ _ (s1.trans (Step.new s1.i hp)) (.tup upd_same (r1.ex (Ex.new (Step.back s1.i hp))))⟩
theorem f_lst (h : EvAs K as σ G ds) (hl : ds.length ≤ 100000) : EvF K (tLst as) σ G ds := fun H e Q q =>
  h H e _ fun vs G1 H1 s1 r1 => ⟨by rw [r1.len]; exact sz_of hl, fun p hp => q p vs G1 _ (s1.trans (Step.own s1.i hp)) (s1.pre hp) (Step.back s1.i hp) upd_same r1⟩

/-! #### tests, and, or, not, if -/
theorem b_test (h : EvD K te σ G (.bl b)) : EvB (tTest te) σ G b := fun H e Q q => h H e _ fun v G1 H1 s r => ⟨b, r.bl_of, q G1 H1 s⟩
theorem b_B (h : EvD K te σ G (.bl b)) : EvB (tB te) σ G b := fun H e Q q => h H e _ fun v G1 H1 s r => ⟨b, r.bl_of, q G1 H1 s⟩
theorem b_and (h1 : EvB t σ G a) (h2 : a = true → EvB u σ G b) : EvB (tAnd t u) σ G (a && b) := fun H e Q q => h1 H e _ fun G1 H1 s1 => by
  cases a with
  | true =>
    show u σ H1 Q
    exact ((h2 rfl).mono s1.g) H1 s1.i Q fun G2 H2 s2 => q G2 H2 (s1.trans s2)
  | false =>
    show Q false H1
    exact q G1 H1 s1
theorem b_or (h1 : EvB t σ G a) (h2 : a = false → EvB u σ G b) : EvB (tOr t u) σ G (a || b) := fun H e Q q => h1 H e _ fun G1 H1 s1 => by
  cases a with
  | true =>
    show Q true H1
    exact q G1 H1 s1
  | false =>
    show u σ H1 Q
    exact ((h2 rfl).mono s1.g) H1 s1.i Q fun G2 H2 s2 => q G2 H2 (s1.trans s2)
theorem b_not (h1 : EvB t σ G a) : EvB (tNot t) σ G (!a) := fun H e Q q => h1 H e _ fun G1 H1 s1 => q G1 H1 s1
theorem e_and (h1 : EvD K ta σ G (.bl a)) (h2 : a = true → EvD K tb σ G (.bl b)) : EvD K (tAndV ta tb) σ G (.bl (a && b)) := fun H e Q q => h1 H e _ fun v G1 H1 s1 r1 => ⟨a, r1.bl_of, by
  cases a with
  | true =>
    show tb σ H1 Q
    exact ((h2 rfl).mono s1.g) H1 s1.i Q fun v G2 H2 s2 r2 => q v G2 H2 (s1.trans s2) r2
  | false =>
    show Q (.bl false) H1
    exact q _ G1 H1 s1 (.bl _)⟩
theorem e_or (h1 : EvD K ta σ G (.bl a)) (h2 : a = false → EvD K tb σ G (.bl b)) : EvD K (tOrV ta tb) σ G (.bl (a || b)) := fun H e Q q => h1 H e _ fun v G1 H1 s1 r1 => ⟨a, r1.bl_of, by
  cases a with
  | true =>
    show Q (.bl true) H1
    exact q _ G1 H1 s1 (.bl _)
  | false =>
    show tb σ H1 Q
    exact ((h2 rfl).mono s1.g) H1 s1.i Q fun v G2 H2 s2 r2 => q v G2 H2 (s1.trans s2) r2⟩
theorem e_not (h1 : EvD K ta σ G (.bl a)) : EvD K (tNotV ta) σ G (.bl (!a)) := fun H e Q q => h1 H e _ fun v G1 H1 s1 r1 => ⟨a, r1.bl_of, q _ G1 H1 s1 (.bl _)⟩
theorem e_if (h : EvB t σ G a) (h1 : a = true → EvD K ta σ G d) (h2 : a = false → EvD K tb σ G d) : EvD K (tIf t ta tb) σ G d := fun H e Q q => h H e _ fun G1 H1 s1 => by
  cases a with
  | true =>
    show ta σ H1 Q
    exact ((h1 rfl).mono s1.g) H1 s1.i Q fun v G2 H2 s2 r2 => q v G2 H2 (s1.trans s2) r2
  | false =>
    show tb σ H1 Q
    exact ((h2 rfl).mono s1.g) H1 s1.i Q fun v G2 H2 s2 r2 => q v G2 H2 (s1.trans s2) r2
theorem e_if2 (h : EvB t σ G a) (h1 : a = true → EvD K ta σ G d1) (h2 : a = false → EvD K tb σ G d2) : EvD K (tIf t ta tb) σ G (if a = true then d1 else d2) :=
  e_if h (fun q => by subst q; exact h1 rfl) (fun q => by subst q; exact h2 rfl)
theorem e_chain {r r' : R2} (ha : EvD K ta σ G d1) (hb : EvD K tb σ G d2) (hc : a = true → EvD K tc σ G d3)
    (h1 : ∀ x y G1 H1 Q, Ex G G1 → Ex G1 H1 → Rp K G1 x d1 → Rp K G1 y d2 → Q (.bl a) H1 → r x y H1 Q)
    (h2 : ∀ y z G1 H1 Q, Ex G G1 → Ex G1 H1 → Rp K G1 y d2 → Rp K G1 z d3 → Q (.bl b) H1 → r' y z H1 Q) : EvD K (tChain r r' ta tb tc) σ G (.bl (a && b)) := fun H e Q q =>
  ha H e _ fun x G1 H1 s1 r1 => (hb.mono s1.g) H1 s1.i _ fun y G2 H2 s2 r2 => h1 x y G2 H2 _ (s1.g.trans s2.g) s2.i (r1.ex s2.g) r2 ⟨a, rfl, by
    have s12 := s1.trans s2
    cases a with
    | true =>
      exact ((hc rfl).mono s12.g) H2 s12.i _ fun z G3 H3 s3 r3 => h2 y z G3 H3 _ (s12.g.trans s3.g) s3.i (r2.ex s3.g) r3 (q _ G3 H3 (s12.trans s3) (.bl _))
    | false => exact q _ G2 H2 s12 (.bl _)⟩
theorem c_le : ∀ x y (G1 H1 : Hp) (Q : VK), Ex G G1 → Ex G1 H1 → Rp K G1 x (.int i) → Rp K G1 y (.int j) → Q (.bl (decide (i ≤ j))) H1 → rI0 (fun i j => .bl (decide (i ≤ j))) x y H1 Q :=
  fun x y G1 H1 Q e1 e2 r1 r2 k => ⟨i, j, r1.int_of, r2.int_of, k⟩
theorem c_lt : ∀ x y (G1 H1 : Hp) (Q : VK), Ex G G1 → Ex G1 H1 → Rp K G1 x (.int i) → Rp K G1 y (.int j) → Q (.bl (decide (i < j))) H1 → rI0 (fun i j => .bl (decide (i < j))) x y H1 Q :=
  fun x y G1 H1 Q e1 e2 r1 r2 k => ⟨i, j, r1.int_of, r2.int_of, k⟩

/-! #### built-ins -/
theorem e_cb {r : List V → Hp → VK → Prop} (h : EvAs K as σ G ds) (hr : ∀ vs G1 H1 Q, Ex G G1 → Ex G1 H1 → RpA K G1 vs ds → (∀ v G2 H2, Step G1 H1 G2 H2 → Rp K G2 v d → Q v H2) → r vs H1 Q) : EvD K (tCB r as) σ G d := fun H e Q q =>
  h H e _ fun vs G1 H1 s1 r1 => hr vs G1 H1 Q s1.g s1.i r1 fun v G2 H2 s2 r2 => q v G2 H2 (s1.trans s2) r2
theorem RpA.one {vs : List V} (r : RpA K H vs [d]) : ∃ v, vs = [v] ∧ Rp K H v d := by
  cases r with
  | cons r1 r2 => cases r2; exact ⟨_, rfl, r1⟩
theorem RpA.two {vs : List V} (r : RpA K H vs [d1, d2]) : ∃ v w, vs = [v, w] ∧ Rp K H v d1 ∧ Rp K H w d2 := by
  cases r with
  | cons r1 r2 =>
    obtain ⟨w, rfl, r3⟩ := r2.one
    exact ⟨_, _, rfl, r1, r3⟩
theorem RpA.three {vs : List V} (r : RpA K H vs [d1, d2, d3]) : ∃ v w u, vs = [v, w, u] ∧ Rp K H v d1 ∧ Rp K H w d2 ∧ Rp K H u d3 := by
  cases r with
  | cons r1 r2 =>
    obtain ⟨w, u, rfl, r3, r4⟩ := r2.two
    exact ⟨_, _, _, rfl, r1, r3, r4⟩
theorem RpA.four {vs : List V} {d4 : D} (r : RpA K H vs [d1, d2, d3, d4]) : ∃ v w u y, vs = [v, w, u, y] ∧ Rp K H v d1 ∧ Rp K H w d2 ∧ Rp K H u d3 ∧ Rp K H y d4 := by
  cases r with
  | cons r1 r2 =>
    obtain ⟨w, u, y, rfl, r3, r4, r5⟩ := r2.three
    exact ⟨_, _, _, _, rfl, r1, r3, r4, r5⟩
theorem RpA.five {vs : List V} {d4 d5 : D} (r : RpA K H vs [d1, d2, d3, d4, d5]) : ∃ v w u y z, vs = [v, w, u, y, z] ∧ Rp K H v d1 ∧ Rp K H w d2 ∧ Rp K H u d3 ∧ Rp K H y d4 ∧ Rp K H z d5 := by
  cases r with
  | cons r1 r2 =>
    obtain ⟨w, u, y, z, rfl, r3, r4, r5, r6⟩ := r2.four
    exact ⟨_, _, _, _, _, rfl, r1, r3, r4, r5, r6⟩
def D.len : D → Option Nat
  | .tup ds => some ds.length
  | .lst ds => some ds.length
  | _ => none
theorem e_len {n : Nat} (ha : EvD K ta σ G d) (h : d.len = some n) : EvD K (tCB (fun xs H Q => ∃ p ys, xs = [.ref p] ∧ (SqL K H p ys ∨ SqT K H p ys) ∧ Q (.int ys.length) H) (tCons ta tNil)) σ G (.int n) :=
  e_cb (a_one ha) fun vs G1 H1 Q e1 e2 r k => by
    obtain ⟨v, rfl, rr⟩ := r.one
    cases d with
    | tup ds =>
      cases Option.some.inj h
      obtain ⟨a, xs, rfl, hs, ha⟩ := rr.tup_of
      refine ⟨a, xs, rfl, .inr (.of (e2 _ _ hs)), ?_⟩
      rw [ha.len]
      exact k _ G1 H1 (Step.refl e2) (.int _)
    | lst ds =>
      cases Option.some.inj h
      obtain ⟨a, xs, rfl, hs, ha⟩ := rr.lst_of
      refine ⟨a, xs, rfl, .inl (.of (e2 _ _ hs)), ?_⟩
      rw [ha.len]
      exact k _ G1 H1 (Step.refl e2) (.int _)
    | _ => cases h
theorem e_sum {ns : List Int} (ha : EvD K ta σ G (.lst ds)) (h : ds = ns.map D.int) : EvD K (tCB (rSum K) (tCons ta tNil)) σ G (.int ns.sum) :=
  e_cb (a_one ha) fun vs G1 H1 Q e1 e2 r k => by
    obtain ⟨v, rfl, rr⟩ := r.one
    obtain ⟨a, xs, rfl, hs, ha⟩ := rr.lst_of
    subst h
    have := ha.ints
    subst this
    exact ⟨a, ns, rfl, .of (e2 _ _ hs), k _ G1 H1 (Step.refl e2) (.int _)⟩
theorem e_all {bs : List Bool} (ha : EvD K ta σ G (.lst ds)) (h : ds = bs.map D.bl) : EvD K (tCB (rAll K) (tCons ta tNil)) σ G (.bl (bs.all id)) :=
  e_cb (a_one ha) fun vs G1 H1 Q e1 e2 r k => by
    obtain ⟨v, rfl, rr⟩ := r.one
    obtain ⟨a, xs, rfl, hs, ha⟩ := rr.lst_of
    have z : xs = bs.map V.bl := by
      have q := (ha.flat (by subst h; rw [List.all_map]; exact List.all_eq_true.mpr fun _ _ => rfl)).1
      rw [q, h, List.map_map]
      rfl
    subst z
    exact ⟨a, bs, rfl, .of (e2 _ _ hs), k _ G1 H1 (Step.refl e2) (.bl _)⟩
theorem e_abs (ha : EvD K ta σ G (.int i)) : EvD K (tCB (fun xs H Q => ∃ i, xs = [.int i] ∧ Q (.int (if i < 0 then -i else i)) H) (tCons ta tNil)) σ G (.int (if i < 0 then -i else i)) :=
  e_cb (a_one ha) fun vs G1 H1 Q e1 e2 r k => by
    obtain ⟨v, rfl, rr⟩ := r.one
    exact ⟨i, by rw [rr.int_of], k _ G1 H1 (Step.refl e2) (.int _)⟩
theorem e_max2 (ha : EvD K ta σ G (.int i)) (hb : EvD K tb σ G (.int j)) : EvD K (tCB (fun xs H Q => ∃ i j, xs = [.int i, .int j] ∧ Q (.int (if j > i then j else i)) H) (tCons ta (tCons tb tNil))) σ G (.int (if j > i then j else i)) :=
  e_cb (a_cons ha (a_one hb)) fun vs G1 H1 Q e1 e2 r k => by
    obtain ⟨v, w, rfl, r1, r2⟩ := r.two
    exact ⟨i, j, by rw [r1.int_of, r2.int_of], k _ G1 H1 (Step.refl e2) (.int _)⟩
theorem e_min2 (ha : EvD K ta σ G (.int i)) (hb : EvD K tb σ G (.int j)) : EvD K (tCB (fun xs H Q => ∃ i j, xs = [.int i, .int j] ∧ Q (.int (if j < i then j else i)) H) (tCons ta (tCons tb tNil))) σ G (.int (if j < i then j else i)) :=
  e_cb (a_cons ha (a_one hb)) fun vs G1 H1 Q e1 e2 r k => by
    obtain ⟨v, w, rfl, r1, r2⟩ := r.two
    exact ⟨i, j, by rw [r1.int_of, r2.int_of], k _ G1 H1 (Step.refl e2) (.int _)⟩
theorem e_int1b (ha : EvD K ta σ G (.bl b)) : EvD K (tCB (fun xs H Q => (∃ i, xs = [.int i] ∧ Q (.int i) H) ∨ ∃ k, xs = [.bl k] ∧ Q (.int (if k then 1 else 0)) H) (tCons ta tNil)) σ G (.int (if b then 1 else 0)) :=
  e_cb (a_one ha) fun vs G1 H1 Q e1 e2 r k => by
    obtain ⟨v, rfl, rr⟩ := r.one
    exact .inr ⟨b, by rw [rr.bl_of], k _ G1 H1 (Step.refl e2) (.int _)⟩
/-- tuple(list) -/
theorem e_tuple (ha : EvD K ta σ G (.lst ds)) : EvD K (tCB (fun xs H Q => ∃ p ys, xs = [.ref p] ∧ ((SqL K H p ys ∧ ∀ l, H l = none → Q (.ref l) (upd H l (.tup ys))) ∨ (SqT K H p ys ∧ Q (.ref p) H))) (tCons ta tNil)) σ G (.tup ds) :=
  e_cb (a_one ha) fun vs G1 H1 Q e1 e2 r k => by
    obtain ⟨v, rfl, rr⟩ := r.one
    obtain ⟨a, xs, rfl, hs, ha⟩ := rr.lst_of
    exact ⟨a, xs, rfl, .inl ⟨.of (e2 _ _ hs), fun l hl => k _ _ _ (Step.new e2 hl) (.tup upd_same (ha.ex (Ex.new (Step.back e2 hl))))⟩⟩
/-- list(x) -/
theorem f_list (ha : EvD K ta σ G d) (h : d.isSeq = true) : EvF K (tCB (fun xs H Q => ∃ p ys, xs = [.ref p] ∧ (SqL K H p ys ∨ SqT K H p ys) ∧ ∀ l, H l = none → Q (.ref l) (upd H l (.lst ys))) (tCons ta tNil)) σ G d.items := fun H e Q q =>
  a_one ha H e _ fun vs G1 H1 s1 r => by
    obtain ⟨v, rfl, rr⟩ := r.one
    cases d with
    | tup ds =>
      obtain ⟨a, xs, rfl, hs, ha⟩ := rr.tup_of
      exact ⟨a, xs, rfl, .inr (.of (s1.i _ _ hs)), fun l hl => q l xs G1 _ (s1.trans (Step.own s1.i hl)) (s1.pre hl) (Step.back s1.i hl) upd_same ha⟩
    | lst ds =>
      obtain ⟨a, xs, rfl, hs, ha⟩ := rr.lst_of
      exact ⟨a, xs, rfl, .inl (.of (s1.i _ _ hs)), fun l hl => q l xs G1 _ (s1.trans (Step.own s1.i hl)) (s1.pre hl) (Step.back s1.i hl) upd_same ha⟩
    | _ => cases h
/-- isinstance(x, T) -/
def D.ty : D → String
  | .non => "NoneType"
  | .bl _ => "bool"
  | .int _ => "int"
  | .str _ => "str"
  | .tup _ => "tuple"
  | .lst _ => "list"
  | .tab _ => "dict"
  | .dic _ => "dict"
theorem Rp.ty (r : Rp K H v d) : TyX K H v (.type d.ty) := by
  cases r with
  | non => exact .base .non
  | bl b => exact .base (.bl b)
  | int i => exact .base (.int i)
  | str x => exact .base (.str x)
  | tup h _ => exact .base (.tup h)
  | lst h _ => exact .base (.lst h)
  | tab h => exact .base (.dT h)
  | dic h => exact .base (.dK h)
theorem e_isi {n s : String} (ha : EvD K ta σ G d) (hd : d.ty = s) (h : kitB s n = some b) : EvD K (tCB (rIsi K) (tCons ta (tCons (tC (.ty n)) tNil))) σ G (.bl b) := fun H e Q q =>
  ha H e _ fun v G1 H1 s1 r1 => ⟨v, .ty n, _, _, b, rfl, .ty n, (r1.ex s1.i).ty, kit_ty (by rw [hd]; exact h), q _ G1 H1 s1 (.bl _)⟩

/-! #### calls of defs that leave all as it is -/
/-- f of data ds is r -/
def spP (K : PySem.W.Frag) (R : List D → D → Prop) : Sp := fun vs H Q _ => ∃ G ds r, Ex G H ∧ RpA K G vs ds ∧ R ds r ∧ ∀ v G' H', Step G H G' H' → Rp K G' v r → Q v H'
/-- .., a new list -/
def spF (K : PySem.W.Frag) (R : List D → List D → Prop) : Sp := fun vs H Q _ => ∃ G ds r, Ex G H ∧ RpA K G vs ds ∧ R ds r ∧ ∀ p xs G' H', Step G H G' H' → H p = none → G' p = none → H' p = some (.lst xs) → RpA K G' xs r → Q (.ref p) H'
theorem e_call {R : List D → D → Prop} {E : XK} (h : EvAs K as σ G ds) (hr : R ds d) : EvD K (tCall (spP K R) [] E as) σ G d := fun H e Q q =>
  h H e _ fun vs G1 H1 s1 r1 => ⟨G1, ds, d, s1.i, by rw [List.append_nil]; exact r1, hr, fun v G2 H2 s2 r2 => q v G2 H2 (s1.trans s2) r2⟩
theorem f_call {R : List D → List D → Prop} {E : XK} (h : EvAs K as σ G ds) (hr : R ds es) : EvF K (tCall (spF K R) [] E as) σ G es := fun H e Q q =>
  h H e _ fun vs G1 H1 s1 r1 => ⟨G1, ds, es, s1.i, by rw [List.append_nil]; exact r1, hr, fun p xs G2 H2 s2 h1 h2 h3 r2 => q p xs G2 H2 (s1.trans s2) (s1.pre h1) h2 h3 r2⟩

/-! #### dicts that stand -/
def kD : Key → D
  | .inl i => .int i
  | .inr s => .str s
theorem Rp.key {k : Key} (r : Rp K H v (kD k)) : v = kV k := by
  cases k <;> (cases r; rfl)
theorem RpA.keys : ∀ {ks : List Key} {vs : List V}, RpA K H vs (ks.map kD) → vs = ks.map kV
  | [], _, h => by cases h; rfl
  | k :: ks, _, h => by
    cases h with
    | cons h1 h2 => rw [h1.key, RpA.keys h2]; rfl
def vD : V → D
  | .non => .non
  | .bl b => .bl b
  | .int i => .int i
  | .str s => .str s
  | _ => .non
def scalV : V → Bool
  | .non => true
  | .bl _ => true
  | .int _ => true
  | .str _ => true
  | _ => false
theorem rp_vD (h : scalV v = true) : Rp K H v (vD v) := by
  cases v <;> first | exact .non | exact .bl _ | exact .int _ | exact .str _ | cases h
theorem dget_of {kvs : List (List Key × V)} {ks : List Key} (e : Ex G H) (r1 : Rp K G x (.tab kvs)) (r2 : Rp K G y (.tup (ks.map kD))) : ∃ a, x = .ref a ∧ DGet H a y (valV kvs ks) ∧ IsD H a := by
  obtain ⟨a, rfl, ha⟩ := r1.tab_of
  obtain ⟨b, xs, rfl, hb, hx⟩ := r2.tup_of
  have := hx.keys
  subst this
  exact ⟨a, rfl, DGet.t (e _ _ ha) (e _ _ hb), .inr ⟨kvs, .inl (e _ _ ha)⟩⟩
theorem e_dget {kvs : List (List Key × V)} {ks : List Key} (ha : EvD K ta σ G (.tab kvs)) (hb : EvD K tb σ G d) (hk : d = .tup (ks.map kD)) (h : valV kvs ks = some v) (hv : scalV v = true) : EvD K (tDGet ta tb) σ G (vD v) := fun H e Q q =>
  ha H e _ fun x G1 H1 s1 r1 => (hb.mono s1.g) H1 s1.i _ fun y G2 H2 s2 r2 => by
    subst hk
    obtain ⟨a, rfl, hg, _⟩ := dget_of s2.i (r1.ex s2.g) r2
    rw [h] at hg
    exact ⟨a, v, rfl, hg, q v G2 H2 (s1.trans s2) (rp_vD hv)⟩
theorem e_dget2 {kvs : List (List Key × V)} {ks : List Key} (ha : EvD K ta σ G (.tab kvs)) (hb : EvD K tb σ G d) (hk : d = .tup (ks.map kD)) (hc : EvD K tc σ G d1) (h1 : d1.flat = true) (hv : ∀ v, valV kvs ks = some v → scalV v = true) :
    EvD K (tDGet2 ta tb tc) σ G (vD ((valV kvs ks).getD d1.toV)) := fun H e Q q =>
  ha H e _ fun x G1 H1 s1 r1 => by
    obtain ⟨a, rfl, ha⟩ := r1.tab_of
    refine ⟨a, rfl, .inr ⟨kvs, .inl (s1.i _ _ ha)⟩, (hb.mono s1.g) H1 s1.i _ fun y G2 H2 s2 r2 => (hc.mono (s1.g.trans s2.g)) H2 s2.i _ fun z G3 H3 s3 r3 => ?_⟩
    subst hk
    obtain ⟨a', ea, hg, _⟩ := dget_of s3.i (r1.ex (s2.g.trans s3.g)) (r2.ex s3.g)
    cases ea
    refine ⟨_, hg, q _ G3 H3 ((s1.trans s2).trans s3) ?_⟩
    rw [(r3.flat h1).1]
    apply rp_vD
    cases w : valV kvs ks with
    | some v => exact hv v w
    | none => cases d1 <;> first | rfl | cases h1
theorem e_din {kvs : List (List Key × V)} {ks : List Key} (hb : EvD K tb σ G d) (ha : EvD K ta σ G (.tab kvs)) (hk : d = .tup (ks.map kD)) : EvD K (tDIn tb ta) σ G (.bl (valV kvs ks).isSome) := fun H e Q q =>
  hb H e _ fun y G1 H1 s1 r1 => (ha.mono s1.g) H1 s1.i _ fun x G2 H2 s2 r2 => by
    subst hk
    obtain ⟨a, rfl, hg, _⟩ := dget_of s2.i r2 (r1.ex s2.g)
    exact ⟨a, _, rfl, hg, q _ G2 H2 (s1.trans s2) (.bl _)⟩
theorem e_dnin {kvs : List (List Key × V)} {ks : List Key} (hb : EvD K tb σ G d) (ha : EvD K ta σ G (.tab kvs)) (hk : d = .tup (ks.map kD)) : EvD K (tDNotIn tb ta) σ G (.bl (!(valV kvs ks).isSome)) := fun H e Q q =>
  hb H e _ fun y G1 H1 s1 r1 => (ha.mono s1.g) H1 s1.i _ fun x G2 H2 s2 r2 => by
    subst hk
    obtain ⟨a, rfl, hg, _⟩ := dget_of s2.i r2 (r1.ex s2.g)
    exact ⟨a, _, rfl, hg, q _ G2 H2 (s1.trans s2) (.bl _)⟩
end

/-! ### walks -/
structure WalkD (K : PySem.W.Frag) (J : It) (n : Nat) (G : Hp) (Y : Nat → D) : Prop where
  goes : ∀ i H, i < n → Ex G H → J.go i H
  stops : ∀ H, Ex G H → J.stop n H
  yields : ∀ i G1 H x H', i < n → Ex G G1 → Ex G1 H → J.yld i H x H' → ∃ G2, Step G1 H G2 H' ∧ Rp K G2 x (Y i)
def EvI (K : PySem.W.Frag) (wi : TI) (σ : L2.St) (G : Hp) (n : Nat) (Y : Nat → D) : Prop := ∀ H, Ex G H → ∀ R : It → Hp → Prop, (∀ J G' H', Step G H G' H' → WalkD K J n G' Y → R J H') → wi σ H R
def nth (ds : List D) (i : Nat) : D := ds.getD i .non
theorem nth_of {ds : List D} {i : Nat} {d : D} (h : ds[i]? = some d) : nth ds i = d := by
  unfold nth
  rw [List.getD_eq_getElem?_getD, h]
  rfl
theorem nth_map {α : Type} {xs : List α} {f : α → D} {i : Nat} {x : α} (h : xs[i]? = some x) : nth (xs.map f) i = f x := nth_of (by rw [List.getElem?_map, h]; rfl)
def setAll (σ : L2.St) : List Nat → List V → L2.St
  | j :: js, v :: vs => setAll (σ.set j (some v)) js vs
  | _, _ => σ
def EvG (K : PySem.W.Frag) (g : TG) (d : D) (js : List Nat) (es : List D) : Prop := ∀ (G H : Hp) v σ Q, Ex G H → Rp K G v d → (∀ vs, RpA K G vs es → Q (setAll σ js vs) H) → g v σ H Q
def EvGs (K : PySem.W.Frag) (g : TGs) (ds : List D) (js : List Nat) (es : List D) : Prop := ∀ (G H : Hp) xs σ Q, Ex G H → RpA K G xs ds → (∀ vs, RpA K G vs es → Q (setAll σ js vs) H) → g xs σ H Q
def pick (n : Nat) (b : Nat → Bool) (f : Nat → D) : List D := ((List.range n).filter b).map f
section
variable {K : PySem.W.Frag} {σ : L2.St} {G G0 H0 G1 H : Hp} {ta tb tc te tx : TE} {t u : TT} {x y z v : V} {d d1 d2 d3 : D} {ds es : List D} {as bs : TA} {i j k m : Int} {a b c : Bool} {n : Nat} {Y : Nat → D} {wi : TI} {g : TG} {js : List Nat}
theorem walkD_list {p : Addr} {xs : List V} (h : G p = some (.lst xs)) (r : RpA K G xs ds) : WalkD K (Itl K p) ds.length G (nth ds) where
  goes := fun i H hi e => ⟨xs, xs[i]'(by rw [r.len]; exact hi), .of (e _ _ h), by simp [r.len, hi]⟩
  stops := fun H e => ⟨xs, .of (e _ _ h), by rw [r.len]; exact Nat.le_refl _⟩
  yields := fun i G1 H x H' hi e1 e2 y => by
    obtain ⟨rfl, y⟩ := y
    have hx := y xs (.of (e2 _ _ (e1 _ _ h)))
    obtain ⟨d, hd, rd⟩ := r.get hx
    exact ⟨G1, Step.refl e2, by rw [nth_of hd]; exact rd.ex e1⟩
theorem walkD_tup {p : Addr} {xs : List V} (h : G p = some (.tup xs)) (r : RpA K G xs ds) : WalkD K (Itt K p) ds.length G (nth ds) where
  goes := fun i H hi e => ⟨xs, xs[i]'(by rw [r.len]; exact hi), .of (e _ _ h), by simp [r.len, hi]⟩
  stops := fun H e => ⟨xs, .of (e _ _ h), by rw [r.len]; exact Nat.le_refl _⟩
  yields := fun i G1 H x H' hi e1 e2 y => by
    obtain ⟨rfl, y⟩ := y
    have hx := y xs (.of (e2 _ _ (e1 _ _ h)))
    obtain ⟨d, hd, rd⟩ := r.get hx
    exact ⟨G1, Step.refl e2, by rw [nth_of hd]; exact rd.ex e1⟩
theorem walkD_range {lo : Int} : WalkD K (Itr lo n) n G (fun i => .int (lo + i)) where
  goes := fun i H hi e => hi
  stops := fun H e => Nat.le_refl _
  yields := fun i G1 H x H' hi e1 e2 y => by
    obtain ⟨rfl, rfl⟩ := y
    exact ⟨G1, Step.refl e2, .int _⟩
theorem walkD_enum {p : Addr} {xs : List V} (h : G p = some (.lst xs)) (r : RpA K G xs ds) : WalkD K (Ite K p) ds.length G (fun i => .tup [.int i, nth ds i]) where
  goes := fun i H hi e => ⟨xs, xs[i]'(by rw [r.len]; exact hi), .of (e _ _ h), by simp [r.len, hi]⟩
  stops := fun H e => ⟨xs, .of (e _ _ h), by rw [r.len]; exact Nat.le_refl _⟩
  yields := fun i G1 H x H' hi e1 e2 y => by
    obtain ⟨T, x, rfl, hT, rfl, y⟩ := y
    have hx := y xs (.of (e2 _ _ (e1 _ _ h)))
    obtain ⟨d, hd, rd⟩ := r.get hx
    exact ⟨_, Step.new e2 hT, .tup upd_same (.cons (.int _) (.cons (by rw [nth_of hd]; exact (rd.ex e1).ex (Ex.new (Step.back e2 hT))) .nil))⟩
theorem i_list (h : EvD K te σ G (.lst ds)) : EvI K (iList K te) σ G ds.length (nth ds) := fun H e R q =>
  h H e _ fun v G1 H1 s r => by
    obtain ⟨p, xs, rfl, hs, ha⟩ := r.lst_of
    exact ⟨p, rfl, ⟨xs, .of (s.i _ _ hs)⟩, q _ G1 H1 s (walkD_list hs ha)⟩
theorem i_tup (h : EvD K te σ G (.tup ds)) : EvI K (iTup K te) σ G ds.length (nth ds) := fun H e R q =>
  h H e _ fun v G1 H1 s r => by
    obtain ⟨p, xs, rfl, hs, ha⟩ := r.tup_of
    exact ⟨p, rfl, ⟨xs, .of (s.i _ _ hs)⟩, q _ G1 H1 s (walkD_tup hs ha)⟩
theorem i_enum (h : EvD K te σ G (.lst ds)) : EvI K (iEnum K (tCons te tNil)) σ G ds.length (fun i => .tup [.int i, nth ds i]) := fun H e R q =>
  h H e _ fun v G1 H1 s r => by
    obtain ⟨p, xs, rfl, hs, ha⟩ := r.lst_of
    exact ⟨p, xs, rfl, .of (s.i _ _ hs), q _ G1 H1 s (walkD_enum hs ha)⟩
theorem i_rng1 (h : EvD K te σ G (.int i)) (hb : -1000000 ≤ i ∧ i ≤ 1000000) : EvI K (iRng1 (tCons te tNil)) σ G i.toNat (fun k => .int k) := fun H e R q =>
  h H e _ fun v G1 H1 s r => ⟨i, by rw [r.int_of], by omega, by omega, q _ G1 H1 s (by
    have z : (fun k : Nat => D.int (k : Int)) = fun k : Nat => D.int ((0 : Int) + (k : Int)) := by funext k; rw [Int.zero_add]
    rw [z]
    exact walkD_range)⟩
theorem i_rng2 (h1 : EvD K ta σ G (.int i)) (h2 : EvD K tb σ G (.int j)) (hb : (-1000000 ≤ i ∧ i ≤ 1000000) ∧ -1000000 ≤ j ∧ j ≤ 1000000) : EvI K (iRng2 (tCons ta (tCons tb tNil))) σ G (j - i).toNat (fun k => .int (i + k)) := fun H e R q =>
  h1 H e _ fun v G1 H1 s1 r1 => (h2.mono s1.g) H1 s1.i _ fun w G2 H2 s2 r2 => ⟨i, j, by rw [r1.int_of, r2.int_of], ⟨by omega, by omega, by omega, by omega⟩, q _ G2 H2 (s1.trans s2) walkD_range⟩
theorem g_name {j : Nat} : EvG K (gName j) d [j] [d] := fun G H v σ Q e r q => q [v] (.cons r .nil)
theorem g_nil : EvGs K gNil [] [] [] := fun G H xs σ Q e r q => by
  cases r
  exact ⟨rfl, q [] .nil⟩
theorem setAll_app (σ : L2.St) : ∀ (js ks : List Nat) (us ws : List V), us.length = js.length → setAll σ (js ++ ks) (us ++ ws) = setAll (setAll σ js us) ks ws
  | [], ks, us, ws, h => by
    have z : us = [] := List.length_eq_zero_iff.mp h
    subst z
    rfl
  | j :: js, ks, [], ws, h => by cases h
  | j :: js, ks, u :: us, ws, h => setAll_app (σ.set j (some u)) js ks us ws (Nat.succ.inj h)
theorem g_cons {gs : TGs} {js1 js2 : List Nat} {es1 es2 : List D} (h1 : EvG K g d js1 es1) (h2 : EvGs K gs ds js2 es2) (hl : es1.length = js1.length) : EvGs K (gCons g gs) (d :: ds) (js1 ++ js2) (es1 ++ es2) := fun G H xs σ Q e r q => by
  cases r with
  | cons r1 r2 =>
    refine ⟨_, _, rfl, h1 G H _ σ _ e r1 fun us ru => h2 G H _ _ _ e r2 fun ws rw' => ?_⟩
    rw [← setAll_app σ js1 js2 us ws (by rw [ru.len, hl])]
    exact q _ (ru.app rw')
theorem g_tup {gs : TGs} (h : EvGs K gs ds js es) (hl : ds.length = n) : EvG K (gTup K n gs) (.tup ds) js es := fun G H v σ Q e r q => by
  obtain ⟨a, xs, rfl, hs, ha⟩ := r.tup_of
  exact ⟨a, xs, rfl, .of (e _ _ hs), by rw [ha.len, hl], h G H xs σ Q e ha q⟩
theorem g_two {j1 j2 : Nat} : EvG K (gTup K 2 (gCons (gName j1) (gCons (gName j2) gNil))) (.tup [d1, d2]) [j1, j2] [d1, d2] := g_tup (g_cons g_name (g_cons g_name g_nil rfl) rfl) rfl
theorem g_three {j1 j2 j3 : Nat} : EvG K (gTup K 3 (gCons (gName j1) (gCons (gName j2) (gCons (gName j3) gNil)))) (.tup [d1, d2, d3]) [j1, j2, j3] [d1, d2, d3] := g_tup (g_cons g_name (g_cons g_name (g_cons g_name g_nil rfl) rfl) rfl) rfl

/-! ### comprehensions -/
theorem pick_zero {b : Nat → Bool} {f : Nat → D} : pick 0 b f = [] := rfl
theorem pick_yes {b : Nat → Bool} {f : Nat → D} (h : b n = true) : pick (n + 1) b f = pick n b f ++ [f n] := by
  unfold pick
  rw [List.range_succ, List.filter_append, List.map_append, List.filter_cons, if_pos h] <;> rfl
theorem pick_no {b : Nat → Bool} {f : Nat → D} (h : b n = false) : pick (n + 1) b f = pick n b f := by
  unfold pick
  rw [List.range_succ, List.filter_append, List.map_append, List.filter_cons, if_neg (by rw [h]; decide)]
  show _ ++ [] = _
  rw [List.append_nil]
theorem pick_len (b : Nat → Bool) (f : Nat → D) : (pick n b f).length ≤ n := by
  unfold pick
  rw [List.length_map]
  have h := List.length_filter_le b (List.range n)
  rw [List.length_range] at h
  exact h
theorem f_lc {tt : TT} {vs : List Nat} (E : Nat → List D) (b : Nat → Bool) (f : Nat → D) (hi : EvI K wi σ G n Y) (hg : ∀ i, i < n → EvG K g (Y i) js (E i)) (hz : n ≤ 1000000)
    (hl : ∀ i, i < n → (E i).length = js.length)
    (hw : ∀ us : List V, us.length = js.length → wipe (setAll (wipe σ vs) js us) vs = wipe σ vs)
    (ht : ∀ i, i < n → ∀ G1, Ex G G1 → ∀ us, RpA K G1 us (E i) → EvB tt (setAll (wipe σ vs) js us) G1 (b i))
    (he : ∀ i, i < n → b i = true → ∀ G1, Ex G G1 → ∀ us, RpA K G1 us (E i) → EvD K te (setAll (wipe σ vs) js us) G1 (f i)) : EvF K (tLc wi g tt te vs) σ G (pick n b f) := fun H e Q q =>
  hi H e _ fun J G1 H1 s1 wk Dl hD => by
    refine ⟨fun i m H' => m = n - i ∧ i ≤ n ∧ ∃ G' xs, Step G1 H1 G' H' ∧ G' Dl = none ∧ H' Dl = some (.lst xs) ∧ RpA K G' xs (pick i b f), ⟨n, by omega, Nat.zero_le _, G1, [], Step.own s1.i hD, Step.back s1.i hD, upd_same, .nil⟩, ?_⟩
    rintro i m H' ⟨rfl, hi', G', xs, s2, hD1, hD2, r2⟩
    by_cases hlt : i < n
    · refine .inr ⟨wk.goes i H' hlt (s2.g.trans s2.i), fun H2 => i + 1 ≤ n ∧ ∃ G' xs, Step G1 H1 G' H2 ∧ G' Dl = none ∧ H2 Dl = some (.lst xs) ∧ RpA K G' xs (pick (i + 1) b f), fun H2 p => ⟨n - (i + 1), by omega, rfl, p⟩, fun x H2 y => ?_⟩
      obtain ⟨G2, s3, r3⟩ := wk.yields i G' H' x H2 hlt s2.g s2.i y
      refine hg i hlt G2 H2 x _ _ s3.i r3 fun us ru => ⟨hw us (by rw [ru.len]; exact hl i hlt), ?_⟩
      obtain ⟨g3, k3⟩ := s3.keep hD1 hD2
      have s23 := s2.trans s3
      refine (ht i hlt G2 (s1.g.trans s23.g) us ru) H2 s3.i _ fun G3 H3 s4 => ?_
      obtain ⟨g4, k4⟩ := s4.keep g3 k3
      cases hb : b i with
      | true =>
        show te (setAll (wipe σ vs) js us) H3 _
        refine ((he i hlt hb G2 (s1.g.trans s23.g) us ru).mono s4.g) H3 s4.i _ fun v G4 H4 s5 r5 => ?_
        obtain ⟨g5, k5⟩ := s5.keep g4 k4
        refine ⟨xs, k5, ?_, hlt, G4, xs ++ [v], ((s23.trans s4).trans s5).mut hD g5, g5, upd_same, ?_⟩
        · rw [r2.len]
          have := pick_len (n := i) b f
          rw [sizeLine_eq]
          omega
        · rw [pick_yes hb]
          exact (r2.ex ((s3.g.trans s4.g).trans s5.g)).snoc r5
      | false =>
        exact ⟨hlt, G3, xs, s23.trans s4, g4, k4, by rw [pick_no hb]; exact r2.ex (s3.g.trans s4.g)⟩
    · have z : i = n := by omega
      subst z
      exact .inl ⟨wk.stops H' (s2.g.trans s2.i), q Dl xs G' H' (s1.trans s2) (s1.pre hD) hD1 hD2 r2⟩
theorem b_yes : EvB tYes σ G true := fun H e Q q => q G H (Step.refl e)

/-! ### statements -/
variable {Dn : Ends} {tu tw tz : TS}
theorem s_asg {i : Nat} (e : Ex G H) (h : EvD K te σ G d) (k : ∀ v G1 H1, Step G H G1 H1 → Rp K G1 v d → Dn.nx (σ.set i (some v)) H1) : tAsg te (gName i) Dn σ H := h H e _ fun v G1 H1 s r => k v G1 H1 s r
theorem q_asg {i : Nat} (e : Ex G H) (h : EvD K te σ G d) (k : ∀ v G1 H1, Step G H G1 H1 → Rp K G1 v d → tz Dn (σ.set i (some v)) H1) : tSeq (tAsg te (gName i)) tz Dn σ H := h H e _ fun v G1 H1 s r => k v G1 H1 s r
theorem q_asgF {i : Nat} (e : Ex G H) (h : EvF K te σ G ds) (k : ∀ p xs G1 H1, Step G H G1 H1 → H p = none → G1 p = none → H1 p = some (.lst xs) → RpA K G1 xs ds → tz Dn (σ.set i (some (.ref p))) H1) : tSeq (tAsg te (gName i)) tz Dn σ H := h H e _ fun p xs G1 H1 s h1 h2 h3 r => k p xs G1 H1 s h1 h2 h3 r
theorem q_asgT (e : Ex G H) (h : EvD K te σ G d) (hg : EvG K g d js es) (k : ∀ vs G1 H1, Step G H G1 H1 → RpA K G1 vs es → tz Dn (setAll σ js vs) H1) : tSeq (tAsg te g) tz Dn σ H := h H e _ fun v G1 H1 s r => hg G1 H1 v σ _ s.i r fun vs rv => k vs G1 H1 s rv
theorem s_asgT (e : Ex G H) (h : EvD K te σ G d) (hg : EvG K g d js es) (k : ∀ vs G1 H1, Step G H G1 H1 → RpA K G1 vs es → Dn.nx (setAll σ js vs) H1) : tAsg te g Dn σ H := h H e _ fun v G1 H1 s r => hg G1 H1 v σ _ s.i r fun vs rv => k vs G1 H1 s rv
theorem s_ret (e : Ex G H) (h : EvD K te σ G d) (k : ∀ v G1 H1, Step G H G1 H1 → Rp K G1 v d → Dn.rt v H1) : tRet te Dn σ H := h H e _ fun v G1 H1 s r => k v G1 H1 s r
theorem s_retF (e : Ex G H) (h : EvF K te σ G ds) (k : ∀ p xs G1 H1, Step G H G1 H1 → H p = none → G1 p = none → H1 p = some (.lst xs) → RpA K G1 xs ds → Dn.rt (.ref p) H1) : tRet te Dn σ H := h H e _ fun p xs G1 H1 s h1 h2 h3 r => k p xs G1 H1 s h1 h2 h3 r
theorem s_if (e : Ex G H) (h : EvB t σ G b) (h1 : b = true → ∀ G1 H1, Step G H G1 H1 → tu Dn σ H1) (h2 : b = false → ∀ G1 H1, Step G H G1 H1 → tw Dn σ H1) : tIfS t tu tw Dn σ H := h H e _ fun G1 H1 s => by
  cases b with
  | true => exact h1 rfl G1 H1 s
  | false => exact h2 rfl G1 H1 s
theorem q_if (e : Ex G H) (h : EvB t σ G b) (h1 : b = true → ∀ G1 H1, Step G H G1 H1 → tu { Dn with nx := tz Dn } σ H1) (h2 : b = false → ∀ G1 H1, Step G H G1 H1 → tw { Dn with nx := tz Dn } σ H1) : tSeq (tIfS t tu tw) tz Dn σ H := s_if (Dn := { Dn with nx := tz Dn }) e h h1 h2
/-- an if whose way is not taken -/
theorem q_no (e : Ex G H) (h : EvB t σ G false) (k : ∀ G1 H1, Step G H G1 H1 → tz Dn σ H1) : tSeq (tIfS t tu tNext) tz Dn σ H := q_if e h (fun z => nomatch z) (fun _ => k)
theorem q_drop (e : Ex G H) (h : EvD K te σ G d) (k : ∀ G1 H1, Step G H G1 H1 → tz Dn σ H1) : tSeq (tDrop te) tz Dn σ H := h H e _ fun v G1 H1 s r => k G1 H1 s
theorem s_drop (e : Ex G H) (h : EvD K te σ G d) (k : ∀ G1 H1, Step G H G1 H1 → Dn.nx σ H1) : tDrop te Dn σ H := h H e _ fun v G1 H1 s r => k G1 H1 s
/-- p.append(e), p an own list in slot i -/
theorem q_app {i : Nat} {p : Addr} {xs : List V} (e : Ex G H) (hp : G p = none) (hx : H p = some (.lst xs)) (hi : σ[i]? = some (some (.ref p))) (h : EvD K te σ G d) (hz : xs.length < 100000)
    (k : ∀ v G1 H1, Step G H G1 H1 → G1 p = none → Rp K G1 v d → tz Dn σ (upd H1 p (.lst (xs ++ [v])))) : tSeq (tDrop (tBM K "list" rAppend (tVar i) (tCons te tNil))) tz Dn σ H :=
  ⟨_, hi, Or.inl ⟨rfl, xs, .of hx⟩, h H e _ fun v G1 H1 s r => ⟨p, xs, v, rfl, rfl, s.h p _ hx, sz_lt hz, k v G1 H1 s (s.keep hp hx).1 r⟩⟩
theorem s_app {i : Nat} {p : Addr} {xs : List V} (e : Ex G H) (hp : G p = none) (hx : H p = some (.lst xs)) (hi : σ[i]? = some (some (.ref p))) (h : EvD K te σ G d) (hz : xs.length < 100000)
    (k : ∀ v G1 H1, Step G H G1 H1 → G1 p = none → Rp K G1 v d → Dn.nx σ (upd H1 p (.lst (xs ++ [v])))) : tDrop (tBM K "list" rAppend (tVar i) (tCons te tNil)) Dn σ H :=
  ⟨_, hi, Or.inl ⟨rfl, xs, .of hx⟩, h H e _ fun v G1 H1 s r => ⟨p, xs, v, rfl, rfl, s.h p _ hx, sz_lt hz, k v G1 H1 s (s.keep hp hx).1 r⟩⟩
/-- p.extend(e) -/
theorem s_ext {i : Nat} {p : Addr} {xs : List V} (e : Ex G H) (hp : G p = none) (hx : H p = some (.lst xs)) (hi : σ[i]? = some (some (.ref p))) (h : EvD K te σ G (.lst ds)) (hz : xs.length + ds.length ≤ 100000)
    (k : ∀ ys G1 H1, Step G H G1 H1 → G1 p = none → RpA K G1 ys ds → Dn.nx σ (upd H1 p (.lst (xs ++ ys)))) : tDrop (tBM K "list" rExtend (tVar i) (tCons te tNil)) Dn σ H :=
  ⟨_, hi, Or.inl ⟨rfl, xs, .of hx⟩, h H e _ fun v G1 H1 s r => by
    obtain ⟨q, ys, rfl, hs, ha⟩ := r.lst_of
    exact ⟨p, q, xs, ys, rfl, rfl, s.h p _ hx, s.i _ _ hs, by rw [ha.len]; exact sz_of hz, k ys G1 H1 s (s.keep hp hx).1 ha⟩⟩
theorem q_ext {i : Nat} {p : Addr} {xs : List V} (e : Ex G H) (hp : G p = none) (hx : H p = some (.lst xs)) (hi : σ[i]? = some (some (.ref p))) (h : EvD K te σ G (.lst ds)) (hz : xs.length + ds.length ≤ 100000)
    (k : ∀ ys G1 H1, Step G H G1 H1 → G1 p = none → RpA K G1 ys ds → tz Dn σ (upd H1 p (.lst (xs ++ ys)))) : tSeq (tDrop (tBM K "list" rExtend (tVar i) (tCons te tNil))) tz Dn σ H := s_ext (Dn := { Dn with nx := tz Dn }) e hp hx hi h hz k
/-- a for: Pv of the turn, the slots, the part that stays, the heap -/
theorem s_for {E : Nat → List D} (S : Step G0 H0 G H) (hi : EvI K wi σ G n Y) (hg : ∀ i, i < n → EvG K g (Y i) js (E i)) (Pv : Nat → L2.St → Hp → Hp → Prop)
    (h0 : ∀ G1 H1, Step G H G1 H1 → Pv 0 σ G1 H1)
    (hs : ∀ Gw, Ex G Gw → ∀ i, i < n → ∀ σ' G' H', Step G0 H0 G' H' → Ex Gw G' → Pv i σ' G' H' → ∀ G2 H2 us, Step G' H' G2 H2 → RpA K G2 us (E i) →
      tu { Dn with nx := fun σ2 H3 => ∃ G3, Step G0 H0 G3 H3 ∧ Ex Gw G3 ∧ Pv (i + 1) σ2 G3 H3, ct := fun σ2 H3 => ∃ G3, Step G0 H0 G3 H3 ∧ Ex Gw G3 ∧ Pv (i + 1) σ2 G3 H3, bk := Dn.nx } (setAll σ' js us) H2)
    (hd : ∀ σ' G' H', Step G0 H0 G' H' → Ex G G' → Pv n σ' G' H' → Dn.nx σ' H') : tFor wi g tu Dn σ H :=
  hi H S.i _ fun J G1 H1 s1 wk => by
    refine ⟨fun i m σ' H' => m = n - i ∧ i ≤ n ∧ ∃ G', Step G0 H0 G' H' ∧ Ex G1 G' ∧ Pv i σ' G' H', ⟨n, by omega, Nat.zero_le _, G1, S.trans s1, Ex.refl _, h0 G1 H1 s1⟩, ?_⟩
    rintro i m σ' H' ⟨rfl, hi', G', s2, e2, p⟩
    by_cases hlt : i < n
    · refine .inr ⟨wk.goes i H' hlt (e2.trans s2.i), fun σ2 H3 => ∃ G3, Step G0 H0 G3 H3 ∧ Ex G1 G3 ∧ Pv (i + 1) σ2 G3 H3, fun σ2 H3 q => ⟨n - (i + 1), by omega, rfl, hlt, q⟩, fun x H2 y => ?_⟩
      obtain ⟨G2, s3, r3⟩ := wk.yields i G' H' x H2 hlt e2 s2.i y
      exact hg i hlt G2 H2 x _ _ s3.i r3 fun us ru => hs G1 s1.g i hlt σ' G' H' s2 e2 p G2 H2 us s3 ru
    · have z : i = n := by omega
      subst z
      exact .inl ⟨wk.stops H' (e2.trans s2.i), hd σ' G' H' s2 (s1.g.trans e2) p⟩
theorem q_for {E : Nat → List D} (S : Step G0 H0 G H) (hi : EvI K wi σ G n Y) (hg : ∀ i, i < n → EvG K g (Y i) js (E i)) (Pv : Nat → L2.St → Hp → Hp → Prop)
    (h0 : ∀ G1 H1, Step G H G1 H1 → Pv 0 σ G1 H1)
    (hs : ∀ Gw, Ex G Gw → ∀ i, i < n → ∀ σ' G' H', Step G0 H0 G' H' → Ex Gw G' → Pv i σ' G' H' → ∀ G2 H2 us, Step G' H' G2 H2 → RpA K G2 us (E i) →
      tu { Dn with nx := fun σ2 H3 => ∃ G3, Step G0 H0 G3 H3 ∧ Ex Gw G3 ∧ Pv (i + 1) σ2 G3 H3, ct := fun σ2 H3 => ∃ G3, Step G0 H0 G3 H3 ∧ Ex Gw G3 ∧ Pv (i + 1) σ2 G3 H3, bk := tz Dn } (setAll σ' js us) H2)
    (hd : ∀ σ' G' H', Step G0 H0 G' H' → Ex G G' → Pv n σ' G' H' → tz Dn σ' H') : tSeq (tFor wi g tu) tz Dn σ H := s_for (Dn := { Dn with nx := tz Dn }) S hi hg Pv h0 hs hd
end
end J

/-! New rules over the hand layer: enumerate(tuple). -/
namespace PySem
open Sem (wp)
open AutoSeq1 (wpAny_loadPart')
theorem j_enum_new1 {v : Value} {o : Obj} {H : Heap → Prop} (B : Begins v o H) :
    Meets (Builtin.«enumerate.__new__» ⟨[.type "enumerate", v], []⟩) (fun _ R s => H s.heap ∧
      R (.ok (.ret (.ref (s.heap.push o).objs.size))) { s with heap := (s.heap.push o).push { cls := .type "enumerate", data := .fields #[.none, .bool false, .ref s.heap.objs.size, rawInt 0, .none, .none] } }) :=
  .of_wp fun prog w A R s h => by
    obtain ⟨hp, g, d, tk, os⟩ := s; obtain ⟨h1, h⟩ := h
    have hsub := sub_enumerate
    have q1 : ∀ {A' : Around} {E : Value → Shared → Prop} {Q : Value → Shared → Prop}, Q (.ref hp.objs.size) ⟨hp.push o, g, d, tk, os⟩ → wpAny (model prog w) A' (pyIter v) Q E ⟨hp, g, d, tk, os⟩ :=
      fun q => B.iter prog w _ _ ⟨hp, g, d, tk, os⟩ _ h1 q
    wp_walk using q1
    refine wpAny_stack_any fun st => wpAny_pure ?_
    split
    · rename_i c _ _ _ _ _
      cases (c == Value.type "enumerate")
      · wp_walk using q1
        exact ⟨_, rfl, h⟩
      · wp_walk using q1
        exact ⟨_, rfl, h⟩
    · wp_walk using q1
      exact ⟨_, rfl, h⟩
theorem j_enum_begins {prog : Program} {w : World} {A : Around} {E : Value → Shared → Prop} {s : Shared} {v : Value} {o : Obj} {H : Heap → Prop} {Q : Value → Shared → Prop} (B : Begins v o H) (h1 : H s.heap)
    (h : ∀ h', IsEnum h' (s.heap.objs.size + 1) s.heap.objs.size 0 .none → h'.get? s.heap.objs.size = some o → h'.objs.size = s.heap.objs.size + 2 →
      (∀ b o, s.heap.get? b = some o → h'.get? b = some o) → Q (.ref (s.heap.objs.size + 1)) { s with heap := h' }) :
    wpAny (model prog w) A (call (.type "enumerate") [v]) Q E s := by
  refine callType_new F.called_enumerate (by decide) (F.typeCall_enumerate_1 _) (F.newCall_enumerate_1 _) (fun obj => F.args_object_init_2 obj _) F.entry_enumerate_new
    (j_enum_new1 B) ⟨h1, ?_⟩
  have hz : (s.heap.push o).objs.size = s.heap.objs.size + 1 := Heap.size_push ..
  show _ ∧ _
  rw [hz]
  have he : IsEnum ((s.heap.push o).push { cls := .type "enumerate", data := .fields #[.none, .bool false, .ref s.heap.objs.size, rawInt 0, .none, .none] }) (s.heap.objs.size + 1) s.heap.objs.size 0 .none := by
    have := Heap.get?_push_size (s.heap.push o) (o := { cls := .type "enumerate", data := .fields #[.none, .bool false, .ref s.heap.objs.size, rawInt 0, .none, .none] }) rfl
    rw [hz] at this; exact this
  refine ⟨⟨_, he, rfl⟩, h _ he (Heap.get?_push_of_some _ (Heap.get?_push_size _ B.free)) (by rw [Heap.size_push, hz]) fun b o x => Heap.get?_push_of_some _ (Heap.get?_push_of_some _ x)⟩
end PySem

namespace J
open PySem L2 PyProof.Rows
/-- enumerate(tuple): the tuple at a, each item in a new pair -/
def Iet (K : PySem.W.Frag) (a : Addr) : It :=
  ⟨fun i H => ∃ (xs : List V) (x : V), SqT K H a xs ∧ xs[i]? = some x, fun i H v H' => ∃ T x, v = .ref T ∧ H T = none ∧ H' = upd H T (.tup [.int (i : Nat), x]) ∧ ∀ xs, SqT K H a xs → xs[i]? = some x, fun i H => ∃ xs : List V, SqT K H a xs ∧ xs.length ≤ i⟩
theorem turn_enumT {P : Program} {w : World} {K : PySem.W.Frag} {elts : List Expr} {kk : Nat} {tpos : Pos} (a e it : Addr) (hai : a ≠ it) :
    Turn P w K (.Tuple elts kk tpos) (Iet K a) [e, it] e (fun i h => (∃ old, IsEnum h e it ((i : Nat) : Int) old) ∧ h.IsTupleIter it a i ∧ e ≠ it ∧ e ≠ a) where
  mem := by simp
  obj := fun i h st b hb => by
    obtain ⟨⟨old, he⟩, ⟨o, ho, hc, hd⟩, _⟩ := st
    have e' : b = e ∨ b = it := by simpa using hb
    rcases e' with z | z
    · rw [z]; exact ⟨_, he, fun v q => nomatch q⟩
    · rw [z]; exact ⟨o, ho, fun v q => by rw [hd] at q; cases q⟩
  keep := fun i h h' st k => let ⟨⟨old, he⟩, hi, hne⟩ := st; ⟨⟨old, k e (by simp) _ he⟩, hi.at fun o q => k it (by simp) o q, hne⟩
  item := by
    intro X hP hw hK hc i pins s σ H E I hf st hg
    subst hP hw hK
    obtain ⟨⟨old, he⟩, hit, hne, hea⟩ := st
    obtain ⟨xs, x, hq, hx⟩ := hg
    obtain ⟨its, rv, p, hz⟩ := I.tuple hq
    obtain ⟨u, hu, ru⟩ := rv.get hx
    have hel : e < s.heap.objs.size := Heap.lt_size he
    have hil : it < s.heap.objs.size := by obtain ⟨_, q, _⟩ := hit; exact Heap.lt_size q
    have hlt : i < its.toArray.size := by
      have := (List.getElem?_eq_some_iff.mp hu).1
      simpa using this
    refine wpAny_pyNext_enum_itemD (Draws.tuple (A := X.A.in1) (show X.A.in1.handled = none from I.ok.hd hc) it a hai its.toArray) he ⟨hit, p⟩ hlt hne (by simp [hne, hea]) fun x' h' tk hP' ho hst' hT hsz hk => ?_
    have hxu : x' = u := by
      have q : its.toArray[i]? = some u := by simpa using hu
      have q2 : its.toArray[i]? = some x' := hP'
      rw [q] at q2
      exact (Option.some.inj q2).symm
    subst hxu
    refine ⟨_, rfl, wpAny_letOwnedTupleGo_enum (s := { s with heap := h', toks := tk + 1 }) ho fun h'' he' sb => ?_⟩
    have hT2 : h''.get? s.heap.objs.size = some { cls := .type "tuple", data := .seq #[.int i tk, x'] } := (sb.2 _ (Nat.ne_of_gt hel)).trans hT
    have new : ObjOk X.prog X.w (upd H s.heap.objs.size (.tup [.int (i : Nat), x])) h'' s.heap.objs.size (.tup [.int (i : Nat), x]) :=
      ⟨by show 2 ≤ sizeLine; decide, [.int i tk, x'], .cons ⟨_, rfl⟩ (.cons ru .nil), ⟨_, hT2, rfl, _, rfl⟩⟩
    have I1 : Inv X pins σ (upd H s.heap.objs.size (.tup [.int (i : Nat), x])) { s with heap := h'', toks := tk + 1 } :=
      I.turnedNew (ch := [e, it]) (fun b ob hb q => (sb.2 b (fun z => hb (by simp [z]))).trans (hk b ob (fun z => hb (by simp [z])) (fun z => hb (by simp [z])) q)) hf (Nat.le_refl _) new
    refine ⟨.ref s.heap.objs.size, _, I1, rfl, ⟨_, x, rfl, I.hok.fresh (Nat.le_refl _), rfl, fun ys hy => by rw [I.tuple_inj hy hq]; exact hx⟩, ⟨⟨x', ?_⟩, hst'.1.at fun o q => (sb.2 it (Ne.symm hne)).trans q, hne, hea⟩, fun b hb => ?_⟩
    · have e1 : ((i + 1 : Nat) : Int) = (i : Int) + 1 := by omega
      rw [e1]; exact he'
    · have hb' : b < s.heap.objs.size := by
        have e' : b = e ∨ b = it := by simpa using hb
        rcases e' with z | z
        · rw [z]; exact hel
        · rw [z]; exact hil
      rw [upd_ne (Nat.ne_of_lt hb')]
      exact (hf b hb).1
  done := by
    intro X hP hw hK hc i pins s σ H E I hf st hg
    subst hP hw hK
    obtain ⟨⟨old, he⟩, hit, hne, hea⟩ := st
    obtain ⟨xs, hq, hx⟩ := hg
    obtain ⟨its, rv, p, hz⟩ := I.tuple hq
    obtain ⟨f0, f1, f2, f3, f4, f5⟩ := hf it (by simp)
    have hl := rv.length
    have hh : X.A.in1.handled = none := I.ok.hd hc
    have hT : s.TypeIs (.ref e) "enumerate" := ⟨_, he, rfl⟩
    unfold pyNext
    refine wpAny_bind (wpAny_attempt (wpAny_callSpecial?_slot (name := Str.ofString "__next__") hT F.slot_enumerate_next
      (wpAny_call_entry F.slot_enumerate_next hT F.entry_enumerate_next ?_ (F.args_enumerate_next_1 _))))
    show wpAny _ _ (field (.ref e) 2 >>= _) _ _ _
    refine wpAny_bind (wpAny_field he rfl (x := .ref it) rfl ?_)
    refine wpAny_bind (wpAny_nextOf_tuple_end hh hit (show s.heap.IsTuple a its.toArray from p) (by simp; omega) fun h' x he' hx' => ?_)
    obtain ⟨o, ho, hc⟩ := hx'
    refine wpAny_bind (wpAny_isInstance (T := "StopIteration") (b := true) ⟨o, ho, hc⟩ isSubtype_stop ?_)
    exact wpAny_pure ⟨rfl, I.turned (t' := s.toks) (fun b o hb q => he' b o hb q) f0 f1 f3 f4 f5⟩
  self := fun A i s Q E st h => let ⟨⟨_, he⟩, _⟩ := st; wpAny_pyIter_enum he h
def iEnumT (K : PySem.W.Frag) (ta : TA) : TI := fun σ H R => ta σ H fun vs H1 => ∃ a xs, vs = [.ref a] ∧ SqT K H1 a xs ∧ R (Iet K a) H1
theorem pi_enumT {X : Cx} {e : Expr} {ta : TA} {p pos tpos : Pos} {elts : List Expr} {kk : Nat} (hg : Gl X "enumerate") (hm : X.mg "enumerate" = none) (ha : PA X [e] ta) (hs : starEach [e] X.env = [(false, eval e X.env)] := by rfl) :
    PI X (.Tuple elts kk tpos) (.Call (.Name "enumerate" p) [e] [] pos) (iEnumT X.K ta) := by
  refine ⟨fun pins s σ H R I h => ?_⟩
  refine Call_ (ld_blt I hg hm boot_enumerate (PyProof.Rows.callWith_type1 (thn (ha.run pos pins s σ H _ I h) fun us s1 ⟨vs, H1, I1, r1, q1⟩ => ?_) hs rfl))
  obtain ⟨a, xs, ex, hq, q⟩ := q1
  subst ex
  cases r1 with
  | cons r rr =>
    cases rr
    cases r
    obtain ⟨its, rv, p', hz⟩ := I1.tuple hq
    have hal : a < s1.heap.objs.size := by obtain ⟨o, ho, _⟩ := p'; exact Heap.lt_size ho
    refine j_enum_begins (begins_tuple a its.toArray) p' fun h' he hit hsz hk => wpAny_pyIter_enum he ?_
    have I2 : Inv X pins σ H1 { s1 with heap := h' } := I1.kept (t' := s1.toks) hk
    refine ⟨s1.heap.objs.size + 1, [s1.heap.objs.size + 1, s1.heap.objs.size], _, _, H1, rfl, I2, turn_enumT a (s1.heap.objs.size + 1) s1.heap.objs.size (Nat.ne_of_lt hal), ⟨⟨.none, he⟩, ⟨_, hit, rfl, rfl⟩, Nat.succ_ne_self _, Nat.ne_of_gt (Nat.lt_succ_of_lt hal)⟩, fun b hb => ?_, q⟩
    have e' : b = s1.heap.objs.size + 1 ∨ b = s1.heap.objs.size := by simpa using hb
    have hle : s1.heap.objs.size ≤ b := by
      rcases e' with z | z
      · rw [z]; exact Nat.le_add_right _ _
      · rw [z]; exact Nat.le_refl _
    exact I1.fpOk hle (I1.hok.fresh hle)

/-! ### dict(pairs), the keys tuples -/
def mergeT (kvs more : List (List Key × V)) : List (List Key × V) := more.foldl (fun acc kv => putK acc kv.1 kv.2) kvs
theorem length_mergeT : ∀ (more kvs : List (List Key × V)), (mergeT kvs more).length ≤ kvs.length + more.length
  | [], kvs => Nat.le_refl _
  | m :: more, kvs => by
    have h := length_mergeT more (putK kvs m.1 m.2)
    have h2 := length_putK kvs m.1 m.2
    show (mergeT (putK kvs m.1 m.2) more).length ≤ kvs.length + (more.length + 1)
    omega
theorem KT.merge {H : Hp} : ∀ {ts : List (List Key × Addr × V)} {ps : List (List Key × Addr × Value)} {kvs : List (List Key × V)} {xs : List (List Key × Addr × Value)},
    Paired (fun (t : List Key × Addr × V) (p : List Key × Addr × Value) => t.1 = p.1 ∧ t.2.1 = p.2.1 ∧ RelV t.2.2 p.2.2 ∧ H t.2.1 = some (.tup (t.1.map kV))) ts ps → KT H kvs xs →
    KT H (mergeT kvs (ts.map fun t => (t.1, t.2.2))) (storedAllH xs ps)
  | [], _, _, _, h, r => by cases h; exact r
  | t :: ts, _, kvs, xs, h, r => by
    cases h with
    | @cons _ p _ ps h1 h2 =>
      obtain ⟨e1, e2, r1, hb⟩ := h1
      have q := KT.put r t.1 (b := p.2.1) (by rw [← e2]; exact hb) r1
      have z : storedAllH xs (p :: ps) = storedAllH (storedH xs t.1 p.2.1 p.2.2) ps := by rw [e1]; rfl
      rw [z]
      exact KT.merge (ts := ts) (kvs := putK kvs t.1 t.2.2) h2 q
theorem pairs_ofT {X : Cx} {pins : List (Addr × Obj)} {σ : L2.St} {H : Hp} {s : Shared} (I : Inv X pins σ H s) : ∀ {ps : List Addr} {ts : List (List Key × Addr × V)}, Paired (fun p (t : List Key × Addr × V) => H p = some (.tup [.ref t.2.1, t.2.2]) ∧ H t.2.1 = some (.tup (t.1.map kV))) ps ts →
    ∃ qs : List (List Key × Addr × Value), Paired (fun (t : List Key × Addr × V) (p : List Key × Addr × Value) => t.1 = p.1 ∧ t.2.1 = p.2.1 ∧ RelV t.2.2 p.2.2 ∧ H t.2.1 = some (.tup (t.1.map kV))) ts qs ∧ qs.length = ps.length ∧
      ∀ (j : Nat) (q : List Key × Addr × Value), qs[j]? = some q → ∃ b : Addr, ps[j]? = some b ∧ IsTup s.heap b #[.ref q.2.1, q.2.2] ∧ (tupleKind (mixKind X.prog X.w)).is s.heap q.1 q.2.1
  | _, _, .nil => ⟨[], .nil, rfl, fun j q e => by simp at e⟩
  | _, _, .cons (a := p) (b := t) h tl => by
    obtain ⟨qs, r, hl, hp⟩ := pairs_ofT I tl
    obtain ⟨its, rv, ht, _⟩ := I.tuple (SqT.of h.1)
    obtain ⟨u, y, ei, ru, ry⟩ := vals2 rv
    subst ei
    cases ru
    refine ⟨(t.1, t.2.1, y) :: qs, .cons ⟨rfl, rfl, ry, h.2⟩ r, by rw [List.length_cons, List.length_cons, hl], fun j q e => ?_⟩
    cases j with
    | zero =>
      have e' : (t.1, t.2.1, y) = q := Option.some.inj e
      subst e'
      exact ⟨p, rfl, ht, key_of I.hok h.2⟩
    | succ j =>
      obtain ⟨b, e1, e2, e3⟩ := hp j q (by simpa using e)
      exact ⟨b, by simpa using e1, e2, e3⟩
def rDictT (K : PySem.W.Frag) : List V → Hp → VK → Prop := fun xs H Q => ∃ (a : Addr) (ps : List Addr) (ts : List (List Key × Addr × V)), xs = [.ref a] ∧ H a = some (.lst (ps.map V.ref)) ∧
    Paired (fun p (t : List Key × Addr × V) => H p = some (.tup [.ref t.2.1, t.2.2]) ∧ H t.2.1 = some (.tup (t.1.map kV))) ps ts ∧
    ∀ p, H p = none → Q (.ref p) (upd H p (.dT (mergeT [] (ts.map fun t => (t.1, t.2.2)))))
theorem call_dictT {X : Cx} (hcalm : X.calm = true) (hu : X.A.units + 64 < cLine) : CallR X (.type "dict") (rDictT X.K) := by
  intro pins s σ H xs us Q I r q
  obtain ⟨a, ps, ts, ex, hq, hp, q⟩ := q
  subst ex
  obtain ⟨u, eu, rx⟩ := vals1 r
  subst eu
  cases rx
  obtain ⟨hz, its, n, rv, hlen, ho⟩ := I.lstM hq
  have ei := refs_at rv
  subst ei
  rw [List.length_map] at hz
  obtain ⟨qs, rel, hl, hpr⟩ := pairs_ofT I hp
  have hall : ∀ x ∈ qs, (tupleKind (mixKind X.prog X.w)).is s.heap x.1 x.2.1 := fun x hx => by
    obtain ⟨j, hj⟩ := List.getElem?_of_mem hx
    exact (hpr j x hj).choose_spec.2.2
  refine call_dict_pairsH (knd := tupleKind (mixKind X.prog X.w)) (n := (qs.map fun p => (Value.ref p.2.1, p.2.2)).length) (ps := qs)
    (PairArg.list a (ps.map Value.ref).toArray (fun j => ps.getD j 0) (qs.map fun p => (Value.ref p.2.1, p.2.2))) (I.ok.hd hcalm) ?hu ?ok ?hc ?st ?sz ?fin
  case hu =>
    show X.A.in1.in1.units < cLine
    have z : X.A.in1.in1.units = X.A.units + 1 + 1 := rfl
    rw [z]
    omega
  case ok =>
    refine ⟨⟨_, n, ho, rfl, rfl, rfl⟩, by simp [hl], fun j k v e => ?_⟩
    rw [List.getElem?_map] at e
    cases e1 : qs[j]? with
    | none => rw [e1] at e; cases e
    | some x =>
      rw [e1] at e
      cases Option.some.inj e
      obtain ⟨b, hb, ht, _⟩ := hpr j x e1
      have hg : ps.getD j 0 = b := by rw [List.getD_eq_getElem?_getD, hb]; rfl
      show (ps.map Value.ref).toArray[j]? = some (Value.ref (ps.getD j 0)) ∧ PairAt s.heap (ps.getD j 0) (Value.ref x.2.1) x.2.2
      rw [hg]
      exact ⟨by simp [hb], .inl ht⟩
  case hc =>
    refine ⟨by simp, fun i key v e => ?_⟩
    have e : (qs.map fun p => (Value.ref p.2.1, p.2.2))[i]? = some (key, v) := e
    rw [List.getElem?_map] at e
    cases e1 : qs[i]? with
    | none => rw [e1] at e; cases e
    | some x =>
      rw [e1] at e
      cases Option.some.inj e
      exact ⟨x.1, x.2.1, by first | exact e1 | rfl, rfl⟩
  case st =>
    intro h' k x hx
    have st : (tupleKind (mixKind X.prog X.w)).Stays := tupleKind_stays
    exact st.stays (fun b o vs n eb _ => k b o (Nat.ne_of_lt (Heap.lt_size eb)) (fun z => nomatch z) eb) (hall x hx)
  case sz =>
    rw [List.length_map, hl]; exact hz
  case fin =>
    intro h' tk hd' k
    have hm : (s.heap.objs.size == sysModules) = false := beq_eq_false_iff_ne.mpr (Nat.ne_of_gt I.big)
    have hts : ts.length = qs.length := Paired.length rel
    have hlen : (mergeT [] (ts.map fun t => (t.1, t.2.2))).length ≤ sizeLine := by
      refine Nat.le_trans (length_mergeT _ []) ?_
      rw [List.length_nil, Nat.zero_add, List.length_map, hts, hl]
      exact hz
    obtain ⟨o, es, ep, hq', h2, h3, h4, _, h5⟩ := hd'
    have kt : KT H (mergeT [] (ts.map fun t => (t.1, t.2.2))) (storedAllH [] qs) := KT.merge rel .nil
    refine ⟨.ref s.heap.objs.size, upd H s.heap.objs.size (.dT (mergeT [] (ts.map fun t => (t.1, t.2.2)))), I.laid (t' := tk) (fun b o e => k b o (fun z => nomatch z) e) (Nat.le_refl _) ⟨hlen, hm, _, kt.keeps fun c ys ec => ?_, o, es, ep, hq', h2, h3, h4, h5⟩, rfl, q _ (I.hok.fresh (Nat.le_refl _))⟩
    rw [upd_ne (ne_of_none ec (I.hok.fresh (Nat.le_refl _)))]
    exact ec

/-! ### sorted(d), d a dict whose keys are pairs of ints -/
abbrev lexB := SrtO.lexB
def kOf (H : Hp) : V → Int × Int
  | .ref a => match H a with
    | some (.tup [.int i, .int j]) => (i, j)
    | _ => (0, 0)
  | _ => (0, 0)
theorem kOf_ref {H : Hp} {a : Addr} {i j : Int} (h : H a = some (.tup [.int i, .int j])) : kOf H (.ref a) = (i, j) := by
  show (match H a with | some (.tup [.int i, .int j]) => (i, j) | _ => (0, 0)) = (i, j)
  rw [h]
def pairK (p : Int × Int) : List Key := [.inl p.1, .inl p.2]
def rSortedDT : List V → Hp → VK → Prop := fun xs H Q => ∃ (d : Addr) (kvs : List (List Key × V)) (ks : List (Int × Int)), xs = [.ref d] ∧ H d = some (.dT kvs) ∧ kvs.map (·.1) = ks.map pairK ∧
  ∀ (p : Addr) (zs : List (Addr × Int × Int)), H p = none → SrtO.Srtd lexB (zs.map (·.2)) → SrtO.Stb lexB (zs.map (·.2)) ks → (∀ z ∈ zs, H z.1 = some (.tup [.int z.2.1, .int z.2.2])) → Q (.ref p) (upd H p (.lst (zs.map fun z => V.ref z.1)))
theorem cr_sortedDT {X : Cx} (hc : X.calm = true) : CallR X (.builtin "sorted") rSortedDT := by
  intro pins s σ H xs us Q I r h
  obtain ⟨d, kvs, ks, rfl, hd, hks, q⟩ := h
  obtain ⟨u, rfl, rx⟩ := vals1 r
  cases rx
  obtain ⟨z, hs, xs', pr, o, es, ep, ho, hx, hdt, he, hn⟩ := (show ObjOk X.prog X.w H s.heap d (.dT kvs) from I.hok d _ hd)
  have l1 : es.size = xs'.length := size_of_entries he
  have l2 : kvs.length = xs'.length := Paired.length pr
  -- the keys' addresses
  have hk : ∀ x ∈ xs', ∃ k ∈ ks, H x.2.1 = some (.tup [.int k.1, .int k.2]) := by
    intro x hx'
    obtain ⟨j, hj⟩ := List.getElem?_of_mem hx'
    obtain ⟨e0, he0, r1, r2, r3⟩ := L2.DX.pget pr hj
    have e1 : (kvs.map (·.1))[j]? = some e0.1 := by rw [List.getElem?_map, he0]; rfl
    rw [hks, List.getElem?_map] at e1
    cases hkj : ks[j]? with
    | none => rw [hkj] at e1; cases e1
    | some k =>
      rw [hkj] at e1
      have e2 : pairK k = e0.1 := Option.some.inj e1
      refine ⟨k, List.mem_of_getElem? hkj, ?_⟩
      rw [r2, ← e2]
      rfl
  have hkl : xs'.map (fun x => kOf H (.ref x.2.1)) = ks := by
    have e1 : kvs.map (fun kv => kv.1) = xs'.map (fun x => x.1) := by
      clear hks hk l1 l2 he hn q hd r z
      induction pr with
      | nil => rfl
      | cons h t ih => rw [List.map_cons, List.map_cons, h.1, ih]
    have e2 : xs'.map (fun x => x.1) = ks.map pairK := by rw [← e1]; exact hks
    apply List.ext_getElem?
    intro j
    rw [List.getElem?_map]
    have e3 : (xs'.map (fun x => x.1))[j]? = (ks.map pairK)[j]? := by rw [e2]
    rw [List.getElem?_map, List.getElem?_map] at e3
    cases hj : xs'[j]? with
    | none =>
      rw [hj] at e3
      cases hkj : ks[j]? with
      | none => rfl
      | some k => rw [hkj] at e3; cases e3
    | some x =>
      rw [hj] at e3
      cases hkj : ks[j]? with
      | none => rw [hkj] at e3; cases e3
      | some k =>
        rw [hkj] at e3
        have e4 : x.1 = pairK k := Option.some.inj e3
        obtain ⟨e0, he0, r1, r2, r3⟩ := L2.DX.pget pr hj
        have e5 : H x.2.1 = some (.tup [.int k.1, .int k.2]) := by rw [r2, r1, e4]; rfl
        exact congrArg some (kOf_ref e5)
  refine Calls.call_function_entry kind_sorted plain_sorted entry_sorted (args_sorted1 _) ?_
  unfold Builtin.«sorted»
  refine wpAny_bind (m := checkCount "sorted" 1 1 _) (wpAny_pure ?_)
  refine wpAny_bind (PySem.W.kdu_collect (A := X.A.in1) (kdl_raw hs hx hdt) (show X.A.in1.handled = none from I.ok.hd hc) ho (by omega) fun h' tk acc kp it => ?_)
  have ea : acc.toList = (xs'.map fun x => x.2.1).map Value.ref := by
    rw [List.map_map]
    have hl : acc.toList.length = xs'.length := by rw [Array.length_toList, it.1]; exact l1
    apply List.ext_getElem?
    intro j
    rw [List.getElem?_map]
    cases hj : acc.toList[j]? with
    | none =>
      have h1 := List.getElem?_eq_none_iff.mp hj
      rw [List.getElem?_eq_none (by omega)]
      all_goals rfl
    | some v =>
      obtain ⟨en, hen, hv⟩ := it.2 j v (by rw [← Array.getElem?_toList]; exact hj)
      have qe := entry_at he j
      rw [hen] at qe
      cases hb : xs'[j]? with
      | none =>
        rw [hb] at qe
        exact nomatch (show some en = none from qe)
      | some b =>
        rw [hb] at qe
        have e2 : en = entryOfKey (tupleKind (mixKind X.prog X.w)) b := Option.some.inj qe
        rw [hv, e2]
        all_goals rfl
  rw [ea]
  generalize has : xs'.map (fun x => x.2.1) = as
  have hal : as.length = xs'.length := by rw [← has, List.length_map]
  have hat : ∀ a ∈ as, ∃ k : Int × Int, H a = some (.tup [.int k.1, .int k.2]) := by
    intro a ha
    rw [← has] at ha
    obtain ⟨x, hx', rfl⟩ := List.mem_map.mp ha
    obtain ⟨k, _, e⟩ := hk x hx'
    exact ⟨k, e⟩
  have hask : as.map (fun a => kOf H (.ref a)) = ks := by rw [← has, List.map_map]; exact hkl
  refine wpAny_bind (wpAny_newList ?_ (by rw [List.length_map, hal]; omega))
  have hob : (h'.push { cls := .type "list", data := .seq (as.map Value.ref).toArray }).get? h'.objs.size = some (seqObj "list" (as.map Value.ref).toArray 0) := Heap.get?_push_size _ rfl
  have kb : ∀ b o, s.heap.get? b = some o → (h'.push { cls := .type "list", data := .seq (as.map Value.ref).toArray }).get? b = some o := fun b o e => Heap.get?_push_of_some _ (kp b o e)
  have ne0 : ∀ b o, h'.get? b = some o → b ≠ h'.objs.size := fun b o e => Nat.ne_of_lt (Heap.lt_size e)
  have I1 : Inv X pins σ H { s with heap := h', toks := tk } := I.kept (t' := tk) kp
  have hn0 : H h'.objs.size = none := I1.hok.fresh (Nat.le_refl _)
  have ka : ∀ b o, h'.get? b = some o → (h'.push { cls := .type "list", data := .seq (as.map Value.ref).toArray }).get? b = some o := fun b o e => Heap.get?_push_of_some _ e
  generalize hh2 : h'.push { cls := .type "list", data := .seq (as.map Value.ref).toArray } = h2 at hob kb ka ⊢
  have hp : ∀ v ∈ as.map Value.ref, Srt.IsPair h2 v (kOf H (backV v)).1 (kOf H (backV v)).2 := fun v hv => by
    obtain ⟨a, ha, rfl⟩ := List.mem_map.mp hv
    obtain ⟨k, hka⟩ := hat a ha
    have e1 : kOf H (backV (Value.ref a)) = k := kOf_ref hka
    rw [e1]
    obtain ⟨_, its2, r2, o, ho, hc, n, hd⟩ := I.hok _ _ hka
    obtain ⟨u1, u2, rfl, ri, rj⟩ := vals2 r2
    obtain ⟨t1, rfl⟩ := ri
    obtain ⟨t2, rfl⟩ := rj
    exact ⟨a, o, t1, t2, n, rfl, kb _ _ ho, hc, hd⟩
  show wpAny _ _ _ _ _ { s with heap := h2, toks := tk }
  refine wpAny_bind (wpAny_holding (wpAny_call_entry PyProof.Rows.slot_list_sort ⟨_, hob, rfl⟩ PyProof.Rows.entry_list_sort
    (SrtO.list_sort_ord (s := { s with heap := h2, toks := tk }) (SrtO.swo_lex fun u => kOf H (backV u)) hob (by rw [List.length_map, hal]; omega) (fun hl2 => SrtO.pairs_sortableO (s := { s with heap := h2, toks := tk }) (by omega) hp fun o e => ?_) fun out h1 h3 => ⟨_, rfl, ?_⟩) (PyProof.Rows.args_list_sort _)))
  · have e' : some o = some (seqObj "list" (as.map Value.ref).toArray 0) := e.symm.trans hob
    cases e'
    intro c
    exact absurd (Value.type.inj c) (by decide)
  · refine wpAny_pure ⟨_, rfl, ?_⟩
    obtain ⟨ep', he'⟩ := PyProof.Rows.sortedHeap_at (vs := as.map Value.ref) (out := out.toArray) hob
    have hmem : ∀ u ∈ out, ∃ a, u = Value.ref a ∧ a ∈ as := fun u hu => by
      obtain ⟨a, ha, e⟩ := List.mem_map.mp (h3.perm.mem_iff.mp hu)
      exact ⟨a, e.symm, ha⟩
    have h3' : ∀ u ∈ out, ∃ a, u = Value.ref a := fun u hu => let ⟨a, e, _⟩ := hmem u hu; ⟨a, e⟩
    have kS : ∀ b o, h'.get? b = some o → (sortedHeap h2 h'.objs.size (as.map Value.ref) out.toArray).get? b = some o := fun b o e =>
      (PyProof.Rows.sortedHeap_old (ne0 b o e) (Heap.lt_size (ka b o e))).trans (ka b o e)
    -- the answer
    let zs : List (Addr × Int × Int) := out.map fun u => (match u with | .ref a => a | _ => 0, kOf H (backV u))
    have ez : (zs.map fun z => V.ref z.1) = out.map backV := by
      show (out.map _).map _ = _
      rw [List.map_map]
      apply List.map_congr_left
      intro u hu
      obtain ⟨a, rfl, _⟩ := hmem u hu
      rfl
    have ek : zs.map (·.2) = out.map fun u => kOf H (backV u) := by
      show (out.map _).map _ = _
      rw [List.map_map]
      rfl
    have eks : (as.map Value.ref).map (fun u => kOf H (backV u)) = ks := by
      rw [List.map_map]
      exact hask
    have hsrt : SrtO.Srtd lexB (zs.map (·.2)) := by
      rw [ek]
      exact SrtO.srtd_map h1
    have swo : SrtO.Swo lexB := by
      refine ⟨fun x y h => ?_, fun x y z h1 h2 => ?_⟩
      · have a := SrtO.lexB_iff.mp h
        refine SrtO.lexB_no.mpr ?_
        omega
      · have a := SrtO.lexB_no.mp h1
        have b := SrtO.lexB_no.mp h2
        refine SrtO.lexB_no.mpr ?_
        omega
    have hstb : SrtO.Stb lexB (zs.map (·.2)) ks := by
      rw [ek, ← eks]
      exact SrtO.Stb.map swo (fun u => kOf H (backV u)) h3
    have hz : ∀ z ∈ zs, H z.1 = some (.tup [.int z.2.1, .int z.2.2]) := by
      intro z hz
      obtain ⟨u, hu, rfl⟩ := List.mem_map.mp hz
      obtain ⟨a, rfl, ha⟩ := hmem u hu
      obtain ⟨k, hka⟩ := hat a ha
      have e1 : kOf H (backV (Value.ref a)) = k := kOf_ref hka
      show H a = _
      rw [e1]
      exact hka
    have hlen : (zs.map fun z => V.ref z.1).length ≤ sizeLine := by
      have e := h3.len
      rw [List.length_map, hal] at e
      rw [ez, List.length_map, e]
      omega
    refine ⟨.ref h'.objs.size, upd H h'.objs.size (.lst (zs.map fun z => V.ref z.1)), I1.laid (h' := sortedHeap h2 h'.objs.size (as.map Value.ref) out.toArray) (t' := tk) kS (Nat.le_refl _) ⟨hlen, out, ep', by rw [ez]; exact vals_back h3', he'⟩, rfl, q _ zs hn0 hsrt hstb hz⟩
end J

namespace J
open PySem L2 Evl
/-! ### operators by what stands there -/
def rAddA (K : PySem.W.Frag) : R2 := fun x y H Q => rI0 (fun i j => .int (i + j)) x y H Q ∨ (fun (x y : V) (H : Hp) (Q : VK) => ∃ i j, x = .str i ∧ y = .str j ∧ i.length + j.length ≤ sizeLine ∧ Q (.str (i ++ j)) H) x y H Q ∨ rCat x y H Q ∨ rCatT K x y H Q
theorem op_addA {X : Cx} : OpR X (binaryOp .Add) (rAddA X.K) := op_add.or (op_add_str.or (op_cat.or op_catT))
def rMulA : R2 := fun x y H Q => rI CMul (fun i j => .int (i * j)) x y H Q ∨ rRep x y H Q
theorem op_mulA {X : Cx} : OpR X (binaryOp .Mult) rMulA := op_mul.or op_rep
def rLtA (K : PySem.W.Frag) : R2 := fun x y H Q => rI0 (fun i j => .bl (decide (i < j))) x y H Q ∨ rLtT K x y H Q
theorem op_ltA {X : Cx} (hu : X.A.units < cLine) : OpR X (compareOp .Lt) (rLtA X.K) := op_lt.or (op_ltT hu)
theorem pi_or {X : Cx} {tg iter : Expr} {w1 w2 : TI} (h1 : PI X tg iter w1) (h2 : PI X tg iter w2) : PI X tg iter (fun σ H R => w1 σ H R ∨ w2 σ H R) :=
  ⟨fun pins s σ H R I h => h.elim (h1.run pins s σ H R I) (h2.run pins s σ H R I)⟩
def iSeq (K : PySem.W.Frag) (te : TE) : TI := fun σ H R => iList K te σ H R ∨ iTup K te σ H R
theorem pi_seq {X : Cx} {tg l : Expr} {tl : TE} (hl : PE X l tl) : PI X tg l (iSeq X.K tl) := pi_or (pi_list hl) (pi_tup hl)
def iEn (K : PySem.W.Frag) (ta : TA) : TI := fun σ H R => iEnum K ta σ H R ∨ iEnumT K ta σ H R
theorem pi_en {X : Cx} {e : Expr} {ta : TA} {p pos tpos : Pos} {elts : List Expr} {kk : Nat} (hg : Gl X "enumerate") (hm : X.mg "enumerate" = none) (ha : PA X [e] ta) (hs : starEach [e] X.env = [(false, eval e X.env)] := by rfl) :
    PI X (.Tuple elts kk tpos) (.Call (.Name "enumerate" p) [e] [] pos) (iEn X.K ta) := pi_or (pi_enum hg hm ha hs) (pi_enumT hg hm ha hs)
/-- a module's constant -/
theorem pe_gI {X : Cx} {x : Str} {i : Int} {pos : Pos} (hg : Gl X x) (hm : ∃ t, X.mg x = some (.int i t)) (hd : (x == ("__debug__" : Str)) = false := by decide) : PE X (.Name x pos) (tC (.int i)) := let ⟨t, h⟩ := hm; pe_glob hg h ⟨t, rfl⟩ hd
theorem pe_gS {X : Cx} {x : Str} {i : Str} {pos : Pos} (hg : Gl X x) (hm : ∃ t, X.mg x = some (.str i t)) (hd : (x == ("__debug__" : Str)) = false := by decide) : PE X (.Name x pos) (tC (.str i)) := let ⟨t, h⟩ := hm; pe_glob hg h ⟨t, rfl⟩ hd
theorem pe_gR {X : Cx} {x : Str} {a : Addr} {pos : Pos} (hg : Gl X x) (hm : X.mg x = some (.ref a)) (hd : (x == ("__debug__" : Str)) = false := by decide) : PE X (.Name x pos) (tC (.ref a)) := pe_glob hg hm rfl hd
/-- a built-in type as a value -/
theorem pe_ty {X : Cx} {x : Str} {n : String} {pos : Pos} (hg : Gl X x) (hm : X.mg x = none) (hv : bootBuiltins x = some (.type n)) (hn : x ≠ "__name__" := by decide) (hd : (x == ("__debug__" : Str)) = false := by decide) : PE X (.Name x pos) (tC (.ty n)) := pe_bltn hg hm hv rfl hn hd

/-! ### a def that stands at the top, with its promise -/
structure Dk (P : Program) (w : World) (K : PySem.W.Frag) (mg : Str → Option Value) (base : Heap) (k : Nat) (x : Str) (ps : List Str) (sp : Sp) : Prop where
  ex : ∃ f fd, FnOk P w K mg base CX0 k f fd ps sp ∧ Binds K fd ps [] ∧ mg x = some (.ref f) ∧ PySem.W.keepIn K (.ref f) = true
theorem pe_fn {X : Cx} {k : Nat} {x : Str} {ps : List Str} {sp : Sp} {p pos : Pos} {e : Expr} {es : List Expr} {t : TA} (D : Dk X.prog X.w X.K X.mg X.base k x ps sp) (hr : Room k X.A) (hg : Gl X x) (ha : PA X (e :: es) t)
    (hdb : (x == ("__debug__" : Str)) = false := by decide) (he : starEach (e :: es) X.env = (false, eval e X.env) :: starEach es X.env := by rfl) (hpl : (backTo pos (starEach es X.env)).any (·.1) = false := by rfl) :
    PE X (.Call (.Name x p) (e :: es) [] pos) (tCall sp [] E0 t) := let ⟨f, fd, F, b, m, kp⟩ := D.ex; pe_call F hr hg m kp b .nil pass0 ha hdb he hpl

/-! ### the rules with the written part named -/
section
variable {X : Cx} (K : PySem.W.Frag) (h : X.K = K)
include h
theorem ix_seqK : IxR X (rIx K) := h ▸ ix_seq
theorem op_addK : OpR X (binaryOp .Add) (rAddA K) := h ▸ op_addA
theorem op_eqK (hu : X.A.units + 64 < cLine) : OpR X (compareOp .Eq) (rEqA K) := h ▸ op_eqA hu
theorem op_neK (hu : X.A.units + 64 < cLine) : OpR X (compareOp .NotEq) (rNeA K) := h ▸ op_neA hu
theorem op_ltK (hu : X.A.units < cLine) : OpR X (compareOp .Lt) (rLtA K) := h ▸ op_ltA hu
theorem op_inK : OpR X (compareOp .In) (rIn K false) := h ▸ op_in_seq
theorem op_ninK : OpR X (compareOp .NotIn) (rIn K true) := h ▸ op_notIn_seq
theorem sl_seqK : SlR X (rSlA K) := h ▸ sl_seq
theorem call_isiK' : CallR X (.builtin "isinstance") (rIsi K) := h ▸ call_isi
theorem call_lenK : CallR X (.builtin "len") (fun xs H Q => ∃ p ys, xs = [.ref p] ∧ (SqL K H p ys ∨ SqT K H p ys) ∧ Q (.int ys.length) H) := h ▸ call_len_seq
theorem cr_sumK (hc : X.calm = true) : CallR X (.builtin "sum") (rSum K) := h ▸ cr_sum hc
theorem cr_allK (hc : X.calm = true) : CallR X (.builtin "all") (rAll K) := h ▸ cr_all hc
theorem call_tupleK : CallR X (.type "tuple") (fun xs H Q => ∃ p ys, xs = [.ref p] ∧ ((SqL K H p ys ∧ ∀ l, H l = none → Q (.ref l) (upd H l (.tup ys))) ∨ (SqT K H p ys ∧ Q (.ref p) H))) := h ▸ call_tuple_of
theorem call_listK : CallR X (.type "list") (fun xs H Q => ∃ p ys, xs = [.ref p] ∧ (SqL K H p ys ∨ SqT K H p ys) ∧ ∀ l, H l = none → Q (.ref l) (upd H l (.lst ys))) := h ▸ call_list_of
theorem call_dictK (hc : X.calm = true) (hu : X.A.units + 64 < cLine) : CallR X (.type "dict") (rDictT K) := h ▸ call_dictT hc hu
theorem pi_seqK {tg l : Expr} {tl : TE} (hl : PE X l tl) : PI X tg l (iSeq K tl) := h ▸ pi_seq hl
theorem pi_enK {e : Expr} {ta : TA} {p pos tpos : Pos} {elts : List Expr} {kk : Nat} (hg : Gl X "enumerate") (hm : X.mg "enumerate" = none) (ha : PA X [e] ta) (hs : starEach [e] X.env = [(false, eval e X.env)] := by rfl) :
    PI X (.Tuple elts kk tpos) (.Call (.Name "enumerate" p) [e] [] pos) (iEn K ta) := h ▸ pi_en hg hm ha hs
theorem pg_tupK {es : List Expr} {k : Nat} {pos : Pos} {t : TGs} (n : Nat) (hc : X.calm = true) (hn : es.length = n) (ht : PGs X es t) (hp : PG X (.Tuple es k pos) (gTup X.K n t)) : PG X (.Tuple es k pos) (gTup K n t) := h ▸ hp
end
section
variable {K : PySem.W.Frag} {σ : L2.St} {G G0 H0 G1 H : Hp} {ta tb tc te tx : TE} {t u : TT} {x y z v : V} {d d1 d2 d3 : D} {ds es : List D} {as bs : TA} {i j k m : Int} {a b c : Bool} {n : Nat} {Y : Nat → D} {wi : TI} {g : TG} {js : List Nat}
theorem e_addI (ha : EvD K ta σ G (.int i)) (hb : EvD K tb σ G (.int j)) : EvD K (tOp (rAddA K) ta tb) σ G (.int (i + j)) :=
  e_op ha hb fun x y G1 H1 Q e1 e2 r1 r2 q => .inl ⟨i, j, r1.int_of, r2.int_of, q _ G1 H1 (Step.refl e2) (.int _)⟩
theorem e_addSA {p q : Str} (ha : EvD K ta σ G (.str p)) (hb : EvD K tb σ G (.str q)) (hl : p.length + q.length ≤ sizeLine) : EvD K (tOp (rAddA K) ta tb) σ G (.str (p ++ q)) :=
  e_op ha hb fun x y G1 H1 Q e1 e2 r1 r2 k => .inr (.inl ⟨p, q, r1.str_of, r2.str_of, hl, k _ G1 H1 (Step.refl e2) (.str _)⟩)
theorem f_cat (ha : EvD K ta σ G (.lst ds)) (hb : EvD K tb σ G (.lst es)) (hl : ds.length + es.length ≤ 1000000) : EvF K (tOp (rAddA K) ta tb) σ G (ds ++ es) := fun H e Q q =>
  ha H e _ fun x G1 H1 s1 r1 => (hb.mono s1.g) H1 s1.i _ fun y G2 H2 s2 r2 => by
    obtain ⟨l, xs, rfl, hs, hx⟩ := (r1.ex s2.g).lst_of
    obtain ⟨m, ys, rfl, hs2, hy⟩ := r2.lst_of
    refine .inr (.inr (.inl ⟨l, m, xs, ys, rfl, rfl, s2.i _ _ hs, s2.i _ _ hs2, ?_, fun p hp => q p _ G2 _ ((s1.trans s2).trans (Step.own s2.i hp)) ((s1.trans s2).pre hp) (Step.back s2.i hp) upd_same (hx.app hy)⟩))
    rw [hx.len, hy.len, sizeLine_eq]
    omega
theorem e_catT (ha : EvD K ta σ G (.tup ds)) (hb : EvD K tb σ G (.tup es)) (hd : ds ≠ []) (he : es ≠ []) (hl : ds.length + es.length ≤ 1000000) : EvD K (tOp (rAddA K) ta tb) σ G (.tup (ds ++ es)) := fun H e Q q =>
  ha H e _ fun x G1 H1 s1 r1 => (hb.mono s1.g) H1 s1.i _ fun y G2 H2 s2 r2 => by
    obtain ⟨l, xs, rfl, hs, hx⟩ := (r1.ex s2.g).tup_of
    obtain ⟨m, ys, rfl, hs2, hy⟩ := r2.tup_of
    have nx : xs ≠ [] := fun z => by subst z; cases hx; exact hd rfl
    have ny : ys ≠ [] := fun z => by subst z; cases hy; exact he rfl
    refine .inr (.inr (.inr ⟨l, m, xs, ys, rfl, rfl, .of (s2.i _ _ hs), .of (s2.i _ _ hs2), nx, ?_, fun z => absurd z ny, fun _ p hp => q _ _ _ ((s1.trans s2).trans (Step.new s2.i hp)) (.tup upd_same ((hx.app hy).ex (Ex.new (Step.back s2.i hp))))⟩))
    rw [hx.len, hy.len, sizeLine_eq]
    omega
theorem e_mulI (ha : EvD K ta σ G (.int i)) (hb : EvD K tb σ G (.int j)) (hc : CMul i j) : EvD K (tOp rMulA ta tb) σ G (.int (i * j)) :=
  e_op ha hb fun x y G1 H1 Q e1 e2 r1 r2 q => .inl ⟨i, j, r1.int_of, r2.int_of, hc, q _ G1 H1 (Step.refl e2) (.int _)⟩
theorem RpA.rep {xs : List V} (r : RpA K H xs ds) : ∀ n : Nat, RpA K H (List.replicate n xs).flatten (List.replicate n ds).flatten
  | 0 => .nil
  | n + 1 => by
    rw [List.replicate_succ, List.flatten_cons, List.replicate_succ, List.flatten_cons]
    exact r.app (RpA.rep r n)
theorem f_rep {n : Nat} (ha : EvD K ta σ G (.lst ds)) (hb : EvD K tb σ G (.int n)) (hl : ds.length * n ≤ 1000000) (hn : n ≤ 1000000) : EvF K (tOp rMulA ta tb) σ G (List.replicate n ds).flatten := fun H e Q q =>
  ha H e _ fun x G1 H1 s1 r1 => (hb.mono s1.g) H1 s1.i _ fun y G2 H2 s2 r2 => by
    obtain ⟨l, xs, rfl, hs, hx⟩ := (r1.ex s2.g).lst_of
    refine .inr ⟨l, (n : Int), xs, rfl, r2.int_of, s2.i _ _ hs, by omega, by omega, ?_, fun p hp => q p _ G2 _ ((s1.trans s2).trans (Step.own s2.i hp)) ((s1.trans s2).pre hp) (Step.back s2.i hp) upd_same ?_⟩
    · rw [hx.len, sizeLine_eq]
      have : (n : Int).toNat = n := rfl
      rw [this]
      omega
    · exact hx.rep n
theorem e_ltI (ha : EvD K ta σ G (.int i)) (hb : EvD K tb σ G (.int j)) : EvD K (tOp (rLtA K) ta tb) σ G (.bl (decide (i < j))) :=
  e_op ha hb fun x y G1 H1 Q e1 e2 r1 r2 q => .inl ⟨i, j, r1.int_of, r2.int_of, q _ G1 H1 (Step.refl e2) (.bl _)⟩
theorem e_ltT {ns ms : List Int} (ha : EvD K ta σ G (.tup ds)) (hb : EvD K tb σ G (.tup es)) (hd : ds = ns.map D.int) (he : es = ms.map D.int) : EvD K (tOp (rLtA K) ta tb) σ G (.bl (HT.lexLt ns ms)) :=
  e_op ha hb fun x y G1 H1 Q e1 e2 r1 r2 q => by
    subst hd he
    obtain ⟨l, xs, rfl, hs, hx⟩ := r1.tup_of
    obtain ⟨m, ys, rfl, hs2, hy⟩ := r2.tup_of
    have z1 := hx.ints
    have z2 := hy.ints
    subst z1 z2
    exact .inr ⟨l, m, ns, ms, rfl, rfl, .of (e2 _ _ hs), .of (e2 _ _ hs2), q _ G1 H1 (Step.refl e2) (.bl _)⟩

/-! ### walks -/
theorem i_seqL (h : EvD K te σ G (.lst ds)) : EvI K (iSeq K te) σ G ds.length (nth ds) := fun H e R q => .inl (i_list h H e R q)
theorem i_seqT (h : EvD K te σ G (.tup ds)) : EvI K (iSeq K te) σ G ds.length (nth ds) := fun H e R q => .inr (i_tup h H e R q)
theorem i_seqT' {n : Nat} (hn : ds.length = n) (h : EvD K te σ G (.tup ds)) : EvI K (iSeq K te) σ G n (nth ds) := hn ▸ i_seqT h
theorem i_seqL' {n : Nat} (hn : ds.length = n) (h : EvD K te σ G (.lst ds)) : EvI K (iSeq K te) σ G n (nth ds) := hn ▸ i_seqL h
theorem i_enL (h : EvD K te σ G (.lst ds)) : EvI K (iEn K (tCons te tNil)) σ G ds.length (fun i => .tup [.int i, nth ds i]) := fun H e R q => .inl (i_enum h H e R q)
theorem i_enL' {n : Nat} (hn : ds.length = n) (h : EvD K te σ G (.lst ds)) : EvI K (iEn K (tCons te tNil)) σ G n (fun i => .tup [.int i, nth ds i]) := hn ▸ i_enL h
theorem walkD_enumT {p : Addr} {xs : List V} (h : G p = some (.tup xs)) (r : RpA K G xs ds) : WalkD K (Iet K p) ds.length G (fun i => .tup [.int i, nth ds i]) where
  goes := fun i H hi e => ⟨xs, xs[i]'(by rw [r.len]; exact hi), .of (e _ _ h), by simp [r.len, hi]⟩
  stops := fun H e => ⟨xs, .of (e _ _ h), by rw [r.len]; exact Nat.le_refl _⟩
  yields := fun i G1 H x H' hi e1 e2 y => by
    obtain ⟨T, x, rfl, hT, rfl, y⟩ := y
    have hx := y xs (.of (e2 _ _ (e1 _ _ h)))
    obtain ⟨d, hd, rd⟩ := r.get hx
    exact ⟨_, Step.new e2 hT, .tup upd_same (.cons (.int _) (.cons (by rw [nth_of hd]; exact (rd.ex e1).ex (Ex.new (Step.back e2 hT))) .nil))⟩
theorem i_enT (h : EvD K te σ G (.tup ds)) : EvI K (iEn K (tCons te tNil)) σ G ds.length (fun i => .tup [.int i, nth ds i]) := fun H e R q =>
  .inr (h H e _ fun v G1 H1 s r => by
    obtain ⟨p, xs, rfl, hs, ha⟩ := r.tup_of
    exact ⟨p, xs, rfl, .of (s.i _ _ hs), q _ G1 H1 s (walkD_enumT hs ha)⟩)

theorem i_enT' {n : Nat} (hn : ds.length = n) (h : EvD K te σ G (.tup ds)) : EvI K (iEn K (tCons te tNil)) σ G n (fun i => .tup [.int i, nth ds i]) := hn ▸ i_enT h
/-! ### dicts -/
/-- dict(pairs) -/
theorem RpA.pairs : ∀ {kvs : List (List Key × V)} {vs : List V}, RpA K H vs (kvs.map fun kv => D.tup [.tup (kv.1.map kD), vD kv.2]) → (∀ kv ∈ kvs, scalV kv.2 = true) →
    ∃ (ps : List Addr) (ts : List (List Key × Addr × V)), vs = ps.map V.ref ∧ ts.map (fun t => (t.1, t.2.2)) = kvs ∧ Paired (fun p (t : List Key × Addr × V) => H p = some (.tup [.ref t.2.1, t.2.2]) ∧ H t.2.1 = some (.tup (t.1.map kV))) ps ts
  | [], _, h, _ => by cases h; exact ⟨[], [], rfl, rfl, .nil⟩
  | kv :: kvs, _, h, hs => by
    cases h with
    | cons h1 h2 =>
      obtain ⟨ps, ts, rfl, e2, pr⟩ := RpA.pairs h2 fun q hq => hs q (List.mem_cons_of_mem _ hq)
      obtain ⟨p, xs, rfl, hp, hx⟩ := h1.tup_of
      obtain ⟨v, w, rfl, r1, r2⟩ := hx.two
      obtain ⟨b, ys, rfl, hb, hy⟩ := r1.tup_of
      have z := hy.keys
      subst z
      have hw : w = kv.2 := by
        have h0 := hs kv List.mem_cons_self
        obtain ⟨k, v⟩ := kv
        cases v <;> first | (cases r2; rfl) | cases h0
      subst hw
      exact ⟨p :: ps, (kv.1, b, kv.2) :: ts, rfl, by rw [List.map_cons, e2], .cons ⟨hp, hb⟩ pr⟩
theorem e_dictT {kvs : List (List Key × V)} (ha : EvD K ta σ G (.lst ds)) (hd : ds = kvs.map fun kv => D.tup [.tup (kv.1.map kD), vD kv.2]) (hs : ∀ kv ∈ kvs, scalV kv.2 = true) : EvD K (tCB (rDictT K) (tCons ta tNil)) σ G (.tab (mergeT [] kvs)) :=
  e_cb (a_one ha) fun vs G1 H1 Q e1 e2 r k => by
    subst hd
    obtain ⟨v, rfl, rr⟩ := r.one
    obtain ⟨a, xs, rfl, h1, h2⟩ := rr.lst_of
    obtain ⟨ps, ts, rfl, e3, pr⟩ := (h2.ex e2).pairs hs
    refine ⟨a, ps, ts, rfl, e2 _ _ h1, pr, fun p hp => ?_⟩
    rw [e3]
    exact k _ _ _ (Step.new e2 hp) (.tab upd_same)
/-- sorted(d) of a dict whose keys stand rising -/
theorem f_sortedDT {kvs : List (List Key × V)} {ks : List (Int × Int)} (ha : EvD K ta σ G (.tab kvs)) (hk : kvs.map (·.1) = ks.map pairK) (hs : SrtO.Srtd lexB ks) : EvF K (tCB rSortedDT (tCons ta tNil)) σ G (ks.map fun k => .tup [.int k.1, .int k.2]) := fun H e Q q =>
  a_one ha H e _ fun vs G1 H1 s1 r => by
    obtain ⟨v, rfl, rr⟩ := r.one
    obtain ⟨a, rfl, h1⟩ := rr.tab_of
    refine ⟨a, kvs, ks, rfl, s1.i _ _ h1, hk, fun p zs hp h2 h3 h4 => ?_⟩
    have swo : SrtO.Swo lexB := by
      refine ⟨fun x y h => ?_, fun x y z h1 h2 => ?_⟩
      · have a := SrtO.lexB_iff.mp h
        refine SrtO.lexB_no.mpr ?_
        omega
      · have a := SrtO.lexB_no.mp h1
        have b := SrtO.lexB_no.mp h2
        refine SrtO.lexB_no.mpr ?_
        omega
    have e3 : zs.map (·.2) = ks := SrtO.stb_uniq swo h2 hs h3
    subst e3
    -- the keys' tuples are taken into what stays
    have ex : ∀ (zs : List (Addr × Int × Int)), (∀ z ∈ zs, H1 z.1 = some (.tup [.int z.2.1, .int z.2.2])) → ∀ G2, Ex G2 H1 → ∃ G3, Step G2 H1 G3 H1 ∧ RpA K G3 (zs.map fun z => V.ref z.1) (zs.map fun z => D.tup [.int z.2.1, .int z.2.2]) := by
      intro zs hz
      induction zs with
      | nil => intro G2 e2; exact ⟨G2, Step.refl e2, .nil⟩
      | cons z zs ih =>
        intro G2 e2
        obtain ⟨G3, s3, r3⟩ := ih (fun z hz' => hz z (List.mem_cons_of_mem _ hz')) G2 e2
        have hz0 := hz z List.mem_cons_self
        have s4 := Step.tup s3.i hz0
        exact ⟨_, s3.trans s4, .cons (.tup upd_same (.cons (.int _) (.cons (.int _) .nil))) (r3.ex s4.g)⟩
    obtain ⟨G3, s3, r3⟩ := ex zs h4 G1 s1.i
    have e5 : ((zs.map (·.2)).map fun k => D.tup [.int k.1, .int k.2]) = zs.map fun z => D.tup [.int z.2.1, .int z.2.2] := by rw [List.map_map]; rfl
    rw [e5] at q
    exact q p _ G3 _ ((s1.trans s3).trans (Step.own s3.i hp)) (s1.pre hp) (Step.back s3.i hp) upd_same r3

/-! ### own objects -/
/-- behind a step that took an own object as standing, it is one's own again -/
theorem Step.thaw {p : Addr} {o : HO} {G' H' : Hp} (hp : G p = none) (hx : H p = some o) (s : Step (upd G p o) H G' H') : ∃ G2, Step G H G2 H' ∧ G2 p = none ∧ H' p = some o ∧ ∀ b u, b ≠ p → G' b = some u → G2 b = some u := by
  refine ⟨fun b => if b = p then none else G' b, ⟨fun b u hb => ?_, fun b u hb => ?_, s.h, fun b u h1 h2 h3 => ?_⟩, if_pos rfl, s.h p o hx, fun b u hb h => (if_neg hb).trans h⟩
  · have z : b ≠ p := fun z => by rw [z, hp] at hb; cases hb
    show (if b = p then none else G' b) = some u
    rw [if_neg z]
    exact s.g b u ((upd_ne z).trans hb)
  · have hb : (if b = p then none else G' b) = some u := hb
    by_cases z : b = p
    · rw [if_pos z] at hb; cases hb
    · rw [if_neg z] at hb; exact s.i b u hb
  · show (if b = p then none else G' b) = none
    by_cases z : b = p
    · rw [if_pos z]
    · rw [if_neg z]; exact s.n b u ((upd_ne z).trans h1) h2 h3
theorem ex_own {p : Addr} {o : HO} (e : Ex G H) (hx : H p = some o) : Ex (upd G p o) H := fun b u hb => by
  by_cases z : b = p
  · subst z; rw [upd_same] at hb; cases hb; exact hx
  · rw [upd_ne z] at hb; exact e b u hb
theorem rp_own {p : Addr} {o : HO} (hp : G p = none) (r : Rp K G v d) : Rp K (upd G p o) v d := r.ex (Ex.new hp)
theorem Rp.flat_any {G2 : Hp} (r : Rp K G v d) (h : d.flat = true) : Rp K G2 v d := by
  cases r <;> first | exact .non | exact .bl _ | exact .int _ | exact .str _ | cases h
variable {Dn : Ends} {tu tw tz : TS}
theorem s_ifO {p : Addr} {o : HO} (e : Ex G H) (hp : G p = none) (hx : H p = some o) (h : EvB t σ (upd G p o) b) (h1 : b = true → ∀ G1 H1, Step G H G1 H1 → G1 p = none → H1 p = some o → tu Dn σ H1)
    (h2 : b = false → ∀ G1 H1, Step G H G1 H1 → G1 p = none → H1 p = some o → tw Dn σ H1) : tIfS t tu tw Dn σ H := h H (ex_own e hx) _ fun G1 H1 s => by
  obtain ⟨G2, s2, g2, x2, _⟩ := s.thaw hp hx
  cases b with
  | true => exact h1 rfl G2 H1 s2 g2 x2
  | false => exact h2 rfl G2 H1 s2 g2 x2
theorem q_ifO {p : Addr} {o : HO} (e : Ex G H) (hp : G p = none) (hx : H p = some o) (h : EvB t σ (upd G p o) b) (h1 : b = true → ∀ G1 H1, Step G H G1 H1 → G1 p = none → H1 p = some o → tu { Dn with nx := tz Dn } σ H1)
    (h2 : b = false → ∀ G1 H1, Step G H G1 H1 → G1 p = none → H1 p = some o → tw { Dn with nx := tz Dn } σ H1) : tSeq (tIfS t tu tw) tz Dn σ H := s_ifO (Dn := { Dn with nx := tz Dn }) e hp hx h h1 h2
/-- x = e, e reads an own object, its value flat -/
theorem q_asgO {p : Addr} {o : HO} {i : Nat} (e : Ex G H) (hp : G p = none) (hx : H p = some o) (h : EvD K te σ (upd G p o) d) (hf : d.flat = true) (k : ∀ v G1 H1, Step G H G1 H1 → G1 p = none → H1 p = some o → Rp K G1 v d → tz Dn (σ.set i (some v)) H1) :
    tSeq (tAsg te (gName i)) tz Dn σ H := h H (ex_own e hx) _ fun v G1 H1 s r => by
  obtain ⟨G2, s2, g2, x2, _⟩ := s.thaw hp hx
  exact k v G2 H1 s2 g2 x2 (r.flat_any hf)
/-- {} -/
theorem q_newT {i : Nat} (e : Ex G H) (k : ∀ p H1, H p = none → G p = none → Step G H G H1 → H1 p = some (.dT []) → tz Dn (σ.set i (some (.ref p))) H1) : tSeq (tAsg tDNewT (gName i)) tz Dn σ H :=
  fun p hp => k p _ hp (Step.back e hp) (Step.own e hp) upd_same
theorem q_newK {i : Nat} (e : Ex G H) (k : ∀ p H1, H p = none → G p = none → Step G H G H1 → H1 p = some (.dK []) → tz Dn (σ.set i (some (.ref p))) H1) : tSeq (tAsg tDNewK (gName i)) tz Dn σ H :=
  fun p hp => k p _ hp (Step.back e hp) (Step.own e hp) upd_same
/-- p[key] = v, p an own dict in slot i -/
theorem s_dputT {i : Nat} {p : Addr} {kvs : List (List Key × V)} {ks : List Key} (e : Ex G H) (hp : G p = none) (hx : H p = some (.dT kvs)) (hi : σ[i]? = some (some (.ref p))) (hv : EvD K te σ G d) (hf : d.flat = true) (hk : EvD K tb σ G d2) (hkd : d2 = .tup (ks.map kD)) (hz : kvs.length < 1000000)
    (k : ∀ G1 H1, Step G H G1 H1 → G1 p = none → Dn.nx σ (upd H1 p (.dT (putK kvs ks d.toV)))) : sDPut (tVar i) tb te Dn σ H :=
  hv H e _ fun v G1 H1 s1 r1 => ⟨_, hi, (hk.mono s1.g) H1 s1.i _ fun y G2 H2 s2 r2 => by
    subst hkd
    obtain ⟨b, xs, rfl, hb, hxs⟩ := r2.tup_of
    have z := hxs.keys
    subst z
    have s := s1.trans s2
    obtain ⟨g2, x2⟩ := s.keep hp hx
    rw [(r1.flat hf).1]
    exact ⟨p, _, rfl, DPut.t x2 (s2.i _ _ hb) (by rw [sizeLine_eq]; omega), k G2 H2 s g2⟩⟩
theorem q_dputT {i : Nat} {p : Addr} {kvs : List (List Key × V)} {ks : List Key} (e : Ex G H) (hp : G p = none) (hx : H p = some (.dT kvs)) (hi : σ[i]? = some (some (.ref p))) (hv : EvD K te σ G d) (hf : d.flat = true) (hk : EvD K tb σ G d2) (hkd : d2 = .tup (ks.map kD)) (hz : kvs.length < 1000000)
    (k : ∀ G1 H1, Step G H G1 H1 → G1 p = none → tz Dn σ (upd H1 p (.dT (putK kvs ks d.toV)))) : tSeq (sDPut (tVar i) tb te) tz Dn σ H := s_dputT (Dn := { Dn with nx := tz Dn }) e hp hx hi hv hf hk hkd hz k

/-! ### comprehensions over typed lists -/
theorem pick_map {α : Type} {xs : List α} {p : α → Bool} {f : α → D} : pick xs.length (fun i => (xs[i]?.map p).getD false) (fun i => (xs[i]?.map f).getD .non) = (xs.filter p).map f := by
  unfold pick
  have h : (List.range xs.length).map (fun i => xs[i]?) = xs.map some := by
    apply List.ext_getElem?
    intro i
    rw [List.getElem?_map, List.getElem?_map]
    by_cases hi : i < xs.length
    · rw [List.getElem?_range hi, List.getElem?_eq_getElem hi]
      show some (xs[i]?) = some (some xs[i])
      rw [List.getElem?_eq_getElem hi]
    · rw [List.getElem?_eq_none (by rw [List.length_range]; omega), List.getElem?_eq_none (by omega)]
      rfl
  have e1 : (fun i => (xs[i]?.map p).getD false) = (fun o : Option α => (o.map p).getD false) ∘ (fun i : Nat => xs[i]?) := rfl
  have e2 : (fun i => (xs[i]?.map f).getD D.non) = (fun o : Option α => (o.map f).getD .non) ∘ (fun i : Nat => xs[i]?) := rfl
  rw [e1, e2, ← List.map_map, ← List.filter_map, h, List.filter_map, List.map_map]
  rfl
theorem at_mapT {α : Type} {xs : List α} {f : α → D} {k : Nat} {x : α} (h : xs[k]? = some x) : D.at (.tup (xs.map f)) (k : Int) = some (f x) := atI_nat (by rw [List.getElem?_map, h]; rfl)
theorem at_mapL {α : Type} {xs : List α} {f : α → D} {k : Nat} {x : α} (h : xs[k]? = some x) : D.at (.lst (xs.map f)) (k : Int) = some (f x) := atI_nat (by rw [List.getElem?_map, h]; rfl)
theorem f_lcm {α : Type} {xs : List α} {tt : TT} {vs : List Nat} (E : Nat → α → List D) (p : α → Bool) (f : α → D) (hi : EvI K wi σ G xs.length Y) (hg : ∀ i x, xs[i]? = some x → EvG K g (Y i) js (E i x)) (hz : xs.length ≤ 1000000)
    (hl : ∀ i x, xs[i]? = some x → (E i x).length = js.length)
    (hw : ∀ us : List V, us.length = js.length → wipe (setAll (wipe σ vs) js us) vs = wipe σ vs)
    (ht : ∀ i x, xs[i]? = some x → ∀ G1, Ex G G1 → ∀ us, RpA K G1 us (E i x) → EvB tt (setAll (wipe σ vs) js us) G1 (p x))
    (he : ∀ i x, xs[i]? = some x → p x = true → ∀ G1, Ex G G1 → ∀ us, RpA K G1 us (E i x) → EvD K te (setAll (wipe σ vs) js us) G1 (f x)) : EvF K (tLc wi g tt te vs) σ G ((xs.filter p).map f) := by
  have hx : ∀ i, i < xs.length → ∃ x, xs[i]? = some x := fun i h => ⟨_, List.getElem?_eq_getElem h⟩
  rw [← pick_map]
  refine f_lc (fun i => (xs[i]?.map (E i)).getD []) _ _ hi (fun i h => ?_) hz (fun i h => ?_) hw (fun i h G1 e us r => ?_) (fun i h hb G1 e us r => ?_)
  · obtain ⟨x, e⟩ := hx i h
    show EvG K g (Y i) js ((xs[i]?.map (E i)).getD [])
    rw [e]
    exact hg i x e
  · obtain ⟨x, e⟩ := hx i h
    show ((xs[i]?.map (E i)).getD []).length = js.length
    rw [e]
    exact hl i x e
  · obtain ⟨x, e1⟩ := hx i h
    have r : RpA K G1 us ((xs[i]?.map (E i)).getD []) := r
    show EvB tt _ G1 ((xs[i]?.map p).getD false)
    rw [e1] at r ⊢
    exact ht i x e1 G1 e us r
  · obtain ⟨x, e1⟩ := hx i h
    have r : RpA K G1 us ((xs[i]?.map (E i)).getD []) := r
    have hb : (xs[i]?.map p).getD false = true := hb
    show EvD K te _ G1 ((xs[i]?.map f).getD .non)
    rw [e1] at r hb ⊢
    exact he i x e1 hb G1 e us r

/-! ### tests whose answer is known -/
theorem b_orF (h1 : EvB t σ G false) (h2 : EvB u σ G false) : EvB (tOr t u) σ G false := b_or h1 fun _ => h2
theorem b_orT (h1 : EvB t σ G true) : EvB (tOr t u) σ G true := (b_or (b := true) h1 fun z => nomatch z).eq rfl
theorem b_andT (h1 : EvB t σ G true) (h2 : EvB u σ G true) : EvB (tAnd t u) σ G true := b_and h1 fun _ => h2
theorem b_andF (h1 : EvB t σ G false) : EvB (tAnd t u) σ G false := (b_and (b := true) h1 fun z => nomatch z).eq rfl
theorem b_notT (h1 : EvB t σ G true) : EvB (tNot t) σ G false := b_not h1
theorem b_notF (h1 : EvB t σ G false) : EvB (tNot t) σ G true := b_not h1
theorem e_chainT {i j k : Int} (ha : EvD K ta σ G (.int i)) (hb : EvD K tb σ G (.int j)) (hc : EvD K tc σ G (.int k)) (h1 : i ≤ j) (h2 : j ≤ k) : EvD K (tChain (rI0 fun i j => .bl (decide (i ≤ j))) (rI0 fun i j => .bl (decide (i ≤ j))) ta tb tc) σ G (.bl true) :=
  (e_chain (a := decide (i ≤ j)) (b := decide (j ≤ k)) ha hb (fun _ => hc) c_le c_le).eq (by rw [decide_eq_true h1, decide_eq_true h2]; rfl)
theorem e_andT (h1 : EvD K ta σ G (.bl true)) (h2 : EvD K tb σ G (.bl true)) : EvD K (tAndV ta tb) σ G (.bl true) := e_and h1 fun _ => h2
theorem EvD.bl (h : EvD K te σ G (.bl a)) (e : a = b) : EvD K te σ G (.bl b) := e ▸ h
theorem EvD.int (h : EvD K te σ G (.int i)) (e : i = j) : EvD K te σ G (.int j) := e ▸ h
/-- s in a table of the module -/
theorem e_ninK {a : Addr} {ds : List V} (ha : EvD K ta σ G d1) (h1 : d1.flat = true) (hs : ∀ H, SqT K H a ds) (h2 : ds.all flatV = true) : EvD K (tOp (rIn K true) ta (tC (.ref a))) σ G (.bl (!inV d1.toV ds)) := fun H e Q q =>
  ha H e _ fun x G1 H1 s1 r1 => by
    obtain ⟨q1, q2⟩ := r1.flat h1
    refine ⟨a, ds, rfl, .inr (hs _), q2, h2, ?_⟩
    subst q1
    exact q _ G1 H1 s1 (.bl _)
theorem e_tup1 (h1 : EvD K ta σ G d1) : EvD K (tTup (tCons ta tNil)) σ G (.tup [d1]) := e_tup (a_one h1) (by show 1 ≤ 100000; decide)
theorem e_tup2 (h1 : EvD K ta σ G d1) (h2 : EvD K tb σ G d2) : EvD K (tTup (tCons ta (tCons tb tNil))) σ G (.tup [d1, d2]) := e_tup (a_cons h1 (a_one h2)) (by show 2 ≤ 100000; decide)
theorem e_tup3 (h1 : EvD K ta σ G d1) (h2 : EvD K tb σ G d2) (h3 : EvD K tc σ G d3) : EvD K (tTup (tCons ta (tCons tb (tCons tc tNil)))) σ G (.tup [d1, d2, d3]) := e_tup (a_cons h1 (a_cons h2 (a_one h3))) (by show 3 ≤ 100000; decide)
theorem q_when (e : Ex G H) (h : EvB t σ G b) (h1 : b = true → ∀ G1 H1, Step G H G1 H1 → tu { Dn with nx := tz Dn } σ H1) (h2 : b = false → ∀ G1 H1, Step G H G1 H1 → tz Dn σ H1) : tSeq (tIfS t tu tNext) tz Dn σ H := q_if e h h1 h2
theorem q_whenO {p : Addr} {o : HO} (e : Ex G H) (hp : G p = none) (hx : H p = some o) (h : EvB t σ (upd G p o) b) (h1 : b = true → ∀ G1 H1, Step G H G1 H1 → G1 p = none → H1 p = some o → tu { Dn with nx := tz Dn } σ H1)
    (h2 : b = false → ∀ G1 H1, Step G H G1 H1 → G1 p = none → H1 p = some o → tz Dn σ H1) : tSeq (tIfS t tu tNext) tz Dn σ H := q_ifO e hp hx h h1 h2
theorem s_when (e : Ex G H) (h : EvB t σ G b) (h1 : b = true → ∀ G1 H1, Step G H G1 H1 → tu Dn σ H1) (h2 : b = false → ∀ G1 H1, Step G H G1 H1 → Dn.nx σ H1) : tIfS t tu tNext Dn σ H := s_if e h h1 h2
theorem i_rng2' {n : Nat} (h1 : EvD K ta σ G (.int i)) (h2 : EvD K tb σ G (.int j)) (hb : (-1000000 ≤ i ∧ i ≤ 1000000) ∧ -1000000 ≤ j ∧ j ≤ 1000000) (hn : (j - i).toNat = n) : EvI K (iRng2 (tCons ta (tCons tb tNil))) σ G n (fun k => .int (i + k)) := hn ▸ i_rng2 h1 h2 hb
theorem i_rng1' {n : Nat} (h : EvD K te σ G (.int n)) (hb : n ≤ 1000000) : EvI K (iRng1 (tCons te tNil)) σ G n (fun k => .int k) := i_rng1 h (by omega)
theorem q_newL {i : Nat} (e : Ex G H) (k : ∀ p H1, H p = none → G p = none → Step G H G H1 → H1 p = some (.lst []) → tz Dn (σ.set i (some (.ref p))) H1) : tSeq (tAsg (tLst tNil) (gName i)) tz Dn σ H :=
  ⟨Nat.zero_le _, fun p hp => k p _ hp (Step.back e hp) (Step.own e hp) upd_same⟩
theorem q_asgC {i : Nat} (k : tz Dn (σ.set i (some v)) H) : tSeq (tAsg (tC v) (gName i)) tz Dn σ H := k
end
end J

/-! Draws: an own list of ints that is drawn from. -/
namespace J
open PySem L2 Evl
structure DOk (ms : List Int) : Prop where
  ex : ∃ a b rest, ms = a :: b :: rest ∧ (0 ≤ a ∧ a < 2147483647) ∧ 0 ≤ b ∧ (∀ x ∈ rest, 0 ≤ x) ∧ rest.length ≤ 63
def Dice (p : Addr) (H : Hp) : Prop := ∃ ms, H p = some (.lst (ms.map V.int)) ∧ DOk ms
def hide (p : Addr) (H : Hp) : Hp := fun b => if b = p then none else H b
theorem hide_p {p : Addr} {H : Hp} : hide p H p = none := if_pos rfl
theorem hide_ne {p b : Addr} {H : Hp} (h : b ≠ p) : hide p H b = H b := if_neg h
theorem ex_hide {p : Addr} {G H : Hp} (e : Ex G H) (g : G p = none) : Ex G (hide p H) := fun b o hb => by
  have z : b ≠ p := fun z => by rw [z, g] at hb; cases hb
  rw [hide_ne z]
  exact e b o hb
theorem hide_ex {p : Addr} {H : Hp} : Ex (hide p H) H := fun b o hb => by
  have z : b ≠ p := fun z => by rw [z, hide_p] at hb; cases hb
  rw [hide_ne z] at hb
  exact hb
theorem hide_hide {p : Addr} {H H1 : Hp} (e : Ex (hide p H) H1) : Ex (hide p H) (hide p H1) := fun b o hb => by
  have z : b ≠ p := fun z => by rw [z, hide_p] at hb; cases hb
  rw [hide_ne z]
  exact e b o hb
section
variable {K : PySem.W.Frag} {σ : L2.St} {p : Addr} {G G1 G2 H H1 H2 : Hp} {ta tb te tx : TE} {t u : TT} {x y z v : V} {d d1 d2 d3 : D} {ds es : List D} {as bs : TA} {i j k m : Int} {a b c : Bool} {n : Nat}
theorem Step.start (e : Ex G H) (g : G p = none) : Step G (hide p H) G H := ⟨Ex.refl _, e, hide_ex, fun _ _ h _ _ => h⟩
theorem Step.transR (a : Step G (hide p H) G1 H1) (b : Step G1 (hide p H1) G2 H2) : Step G (hide p H) G2 H2 :=
  ⟨a.g.trans b.g, b.i, (hide_hide a.h).trans b.h, fun x o h1 h2 h3 => b.n x o (a.n x o h1 h2 h3) (hide_hide a.h x o h2) h3⟩
/-- a plain step, seen beside the draws -/
theorem Step.toR (s : Step G H G1 H1) (g : G p = none) (d : Dice p H) : Step G (hide p H) G1 H1 ∧ G1 p = none ∧ Dice p H1 := by
  obtain ⟨ms, hm, ok⟩ := d
  obtain ⟨g1, h1⟩ := s.keep g hm
  exact ⟨⟨s.g, s.i, hide_ex.trans s.h, fun x o h1 h2 h3 => s.n x o h1 (hide_ex x o h2) h3⟩, g1, ms, h1, ok⟩
theorem Dice.step (d : Dice p H) (s : Step G H G1 H1) (g : G p = none) : G1 p = none ∧ Dice p H1 := (s.toR g d).2
theorem Dice.mut {q : Addr} {o : HO} (d : Dice p H) (h : q ≠ p) : Dice p (upd H q o) := let ⟨ms, hm, ok⟩ := d; ⟨ms, (upd_ne (Ne.symm h)).trans hm, ok⟩
theorem Dice.some (d : Dice p H) : ∃ xs, H p = some (.lst xs) := let ⟨_, hm, _⟩ := d; ⟨_, hm⟩
def EvR (K : PySem.W.Frag) (p : Addr) (te : TE) (σ : L2.St) (G : Hp) (R : D → Prop) : Prop := ∀ H, Ex G H → G p = none → Dice p H → ∀ Q : VK, (∀ v d G' H', Step G (hide p H) G' H' → G' p = none → Dice p H' → R d → Rp K G' v d → Q v H') → te σ H Q
def EvRs (K : PySem.W.Frag) (p : Addr) (ta : TA) (σ : L2.St) (G : Hp) (R : List D → Prop) : Prop := ∀ H, Ex G H → G p = none → Dice p H → ∀ Q : List V → Hp → Prop, (∀ vs ds G' H', Step G (hide p H) G' H' → G' p = none → Dice p H' → R ds → RpA K G' vs ds → Q vs H') → ta σ H Q
variable {R RA RB : D → Prop} {Rs Rs1 : List D → Prop}
theorem EvR.mono (e : Ex G G1) (h : EvR K p te σ G R) : EvR K p te σ G1 R := fun H a g dc Q q => by
  have g0 : G p = none := by
    cases q : G p with
    | none => rfl
    | some o => rw [e p o q] at g; cases g
  refine h H (e.trans a) g0 dc Q fun v d G' H' s g' dc' r rp => ?_
  obtain ⟨G2, s2, e2, n2⟩ := s.widen e (ex_hide a g)
  exact q v d G2 H' s2 (n2 p hide_p g') dc' r (rp.ex e2)
theorem EvRs.mono (e : Ex G G1) (h : EvRs K p as σ G Rs) : EvRs K p as σ G1 Rs := fun H a g dc Q q => by
  have g0 : G p = none := by
    cases q : G p with
    | none => rfl
    | some o => rw [e p o q] at g; cases g
  refine h H (e.trans a) g0 dc Q fun v d G' H' s g' dc' r rp => ?_
  obtain ⟨G2, s2, e2, n2⟩ := s.widen e (ex_hide a g)
  exact q v d G2 H' s2 (n2 p hide_p g') dc' r (rp.ex e2)
theorem EvR.imp (h : EvR K p te σ G RA) (i : ∀ d, RA d → R d) : EvR K p te σ G R := fun H a g dc Q q => h H a g dc Q fun v d G' H' s g' dc' r rp => q v d G' H' s g' dc' (i d r) rp
theorem r_of (h : EvD K te σ G d) (hr : R d) : EvR K p te σ G R := fun H e g dc Q q => h H e Q fun v G' H' s r => by
  obtain ⟨s1, g1, d1⟩ := s.toR g dc
  exact q v d G' H' s1 g1 d1 hr r
theorem rs_nil (h : Rs []) : EvRs K p tNil σ G Rs := fun H e g dc Q q => q [] [] G H (Step.start e g) g dc h .nil
theorem rs_cons (h1 : EvR K p te σ G RA) (h2 : EvRs K p as σ G Rs1) (hr : ∀ d ds, RA d → Rs1 ds → Rs (d :: ds)) : EvRs K p (tCons te as) σ G Rs := fun H e g dc Q q =>
  h1 H e g dc _ fun v d G1 H1 s1 g1 d1 r1 rp1 => (h2.mono s1.g) H1 s1.i g1 d1 _ fun vs ds G2 H2 s2 g2 d2 r2 rp2 => q (v :: vs) (d :: ds) G2 H2 (s1.transR s2) g2 d2 (hr d ds r1 r2) (.cons (rp1.ex s2.g) rp2)
theorem rs_one (h1 : EvR K p te σ G RA) (hr : ∀ d, RA d → Rs [d]) : EvRs K p (tCons te tNil) σ G Rs := rs_cons h1 (rs_nil (Rs := fun ds => ds = []) rfl) fun d ds h z => by subst z; exact hr d h
/-- two values, an operation -/
theorem r_op {r : R2} (ha : EvR K p ta σ G RA) (hb : EvR K p tb σ G RB) (hr : ∀ x y d1 d2 G1 H1 Q, Ex G G1 → Ex G1 H1 → RA d1 → RB d2 → Rp K G1 x d1 → Rp K G1 y d2 → (∀ v d, R d → Rp K G1 v d → Q v H1) → r x y H1 Q) : EvR K p (tOp r ta tb) σ G R := fun H e g dc Q q =>
  ha H e g dc _ fun x d1 G1 H1 s1 g1 dc1 r1 rp1 => (hb.mono s1.g) H1 s1.i g1 dc1 _ fun y d2 G2 H2 s2 g2 dc2 r2 rp2 => hr x y d1 d2 G2 H2 Q (s1.g.trans s2.g) s2.i r1 r2 (rp1.ex s2.g) rp2 fun v d rd rpd => q v d G2 H2 (s1.transR s2) g2 dc2 rd rpd
/-- a number below n -/
def Lt (n : Nat) (d : D) : Prop := ∃ r : Nat, d = .int r ∧ r < n
/-- a number within bounds -/
def Btw (lo hi : Nat) (d : D) : Prop := ∃ r : Nat, d = .int r ∧ lo ≤ r ∧ r ≤ hi
theorem r_add {a b c e : Nat} (ha : EvR K p ta σ G (Btw a b)) (hb : EvR K p tb σ G (Btw c e)) : EvR K p (tOp (rAddA K) ta tb) σ G (Btw (a + c) (b + e)) :=
  r_op ha hb fun x y d1 d2 G1 H1 Q e1 e2 r1 r2 rp1 rp2 q => by
    obtain ⟨i, rfl, h1, h2⟩ := r1
    obtain ⟨j, rfl, h3, h4⟩ := r2
    exact .inl ⟨i, j, rp1.int_of, rp2.int_of, q _ (.int ((i + j : Nat) : Int)) ⟨i + j, rfl, by omega, by omega⟩ (.int _)⟩
theorem r_n {n : Nat} (h : EvD K te σ G (.int n)) : EvR K p te σ G (Btw n n) := r_of h ⟨n, rfl, Nat.le_refl _, Nat.le_refl _⟩
/-- one of a list that is written out -/
theorem r_pick (ha : EvRs K p as σ G fun ds => ds.length = n ∧ ∀ d ∈ ds, R d) (hb : EvR K p tb σ G (Lt n)) (hn : n ≤ 1000) : EvR K p (tOp (rIx K) (tLst as) tb) σ G R := fun H e g dc Q q =>
  ha H e g dc _ fun vs ds G1 H1 s1 g1 d1 ⟨hl, hr⟩ rp1 => by
    refine ⟨by rw [rp1.len, hl, sizeLine_eq]; omega, fun l hl' => ?_⟩
    have s2 := Step.own (o := .lst vs) s1.i hl'
    have nlp : p ≠ l := fun z => by obtain ⟨ms, hm, _⟩ := d1; rw [z, hl'] at hm; cases hm
    have d2 : Dice p (upd H1 l (.lst vs)) := d1.mut (Ne.symm nlp)
    have g0 : G1 l = none := Step.back s1.i hl'
    -- the index: the list stands beside
    refine (hb.mono (s1.g.trans (Ex.new (o := .lst vs) g0))) (upd H1 l (.lst vs)) (ex_own s2.i upd_same) (by rw [upd_ne nlp]; exact g1) d2 _ fun y d2' G2 H2 s3 g2 d3 r2 rp2 => ?_
    obtain ⟨i, rfl, hi⟩ := r2
    have hx := s3.g l _ upd_same
    obtain ⟨dd, hdd⟩ : ∃ dd, ds[i]? = some dd := ⟨ds[i]'(by omega), List.getElem?_eq_getElem _⟩
    obtain ⟨v, hv, rv⟩ := rp1.at hdd
    have rv2 : Rp K G2 v dd := rv.ex ((Ex.new (o := .lst vs) g0).trans s3.g)
    refine .inl ⟨l, vs, (i : Int), v, rfl, rp2.int_of, .of (s3.i _ _ hx), atI_nat hv, q v dd G2 H2 ⟨s1.g.trans ((Ex.new (o := .lst vs) g0).trans s3.g), s3.i, ?_, ?_⟩ g2 d3 (hr dd (List.mem_of_getElem? hdd)) rv2⟩
    · refine (hide_hide s1.h).trans (Ex.trans ?_ s3.h)
      intro b o hb
      have z : b ≠ p := fun z => by rw [z, hide_p] at hb; cases hb
      rw [hide_ne z] at hb ⊢
      rw [upd_ne (ne_of_none hb hl')]
      exact hb
    · intro b o h1 h2 h3
      have z : b ≠ p := fun z => by rw [z, hide_p] at h2; cases h2
      have zl : b ≠ l := ne_of_none (s1.h b o h2) hl'
      refine s3.n b o ?_ ?_ h3
      · rw [upd_ne zl]; exact s1.n b o h1 h2 h3
      · rw [hide_ne z, upd_ne zl]; exact s1.h b o h2
/-! ### defs that draw -/
def spR (K : PySem.W.Frag) (Pre : List D → Prop) (R : List D → D → Prop) : Sp := fun vs H Q _ => ∃ p ws G ds, vs = .ref p :: ws ∧ Ex G H ∧ G p = none ∧ Dice p H ∧ RpA K G ws ds ∧ Pre ds ∧
  ∀ v d G' H', Step G (hide p H) G' H' → G' p = none → Dice p H' → R ds d → Rp K G' v d → Q v H'
theorem r_call {Pre : List D → Prop} {RR : List D → D → Prop} {E : XK} {i : Nat} (hi : σ[i]? = some (some (.ref p))) (h : EvRs K p as σ G fun ds => Pre ds ∧ ∀ d, RR ds d → R d) : EvR K p (tCall (spR K Pre RR) [] E (tCons (tVar i) as)) σ G R := fun H e g dc Q q =>
  ⟨_, hi, h H e g dc _ fun vs ds G1 H1 s1 g1 d1 r1 rp1 => ⟨p, vs, G1, ds, by rw [List.append_nil], s1.i, g1, d1, rp1, r1.1, fun v d G2 H2 s2 g2 d2 r2 rp2 => q v d G2 H2 (s1.transR s2) g2 d2 (r1.2 d r2) rp2⟩⟩
theorem r_call1 {Pre : List D → Prop} {RR : List D → D → Prop} {E : XK} {i : Nat} (hi : σ[i]? = some (some (.ref p))) (h : EvAs K as σ G ds) (hp : Pre ds) : EvR K p (tCall (spR K Pre RR) [] E (tCons (tVar i) as)) σ G (RR ds) := fun H e g dc Q q =>
  ⟨_, hi, h H e _ fun vs G1 H1 s rp1 => by
    obtain ⟨s1, g1, d1⟩ := s.toR g dc
    exact ⟨p, vs, G1, ds, by rw [List.append_nil], s1.i, g1, d1, rp1, hp, fun v d G2 H2 s2 g2 d2 r2 rp2 => q v d G2 H2 (s1.transR s2) g2 d2 r2 rp2⟩⟩
theorem r_tup (h : EvRs K p as σ G fun ds => ds.length ≤ 1000 ∧ R (.tup ds)) : EvR K p (tTup as) σ G R := fun H e g dc Q q =>
  h H e g dc _ fun vs ds G1 H1 s1 g1 d1 r1 rp1 => ⟨by rw [rp1.len, sizeLine_eq]; have := r1.1; omega, fun l hl => by
    have nlp : l ≠ p := fun z => by obtain ⟨ms, hm, _⟩ := d1; rw [z, hm] at hl; cases hl
    refine q _ (.tup ds) _ _ (s1.transR ⟨Ex.new (Step.back s1.i hl), (Step.new s1.i hl).i, hide_ex.trans (Ex.new hl), fun b o h1 h2 h3 => ?_⟩) ?_ (d1.mut nlp) r1.2 (.tup upd_same (rp1.ex (Ex.new (Step.back s1.i hl))))
    · rw [upd_ne (ne_of_none (hide_ex b o h2) hl)]; exact h1
    · rw [upd_ne (Ne.symm nlp)]; exact g1⟩
variable {Dn : Ends} {tu tw tz : TS}
theorem qr_asg {i : Nat} (e : Ex G H) (g : G p = none) (dc : Dice p H) (h : EvR K p te σ G R) (k : ∀ v d G1 H1, Step G (hide p H) G1 H1 → G1 p = none → Dice p H1 → R d → Rp K G1 v d → tz Dn (σ.set i (some v)) H1) : tSeq (tAsg te (gName i)) tz Dn σ H := h H e g dc _ fun v d G1 H1 s g1 d1 r rp => k v d G1 H1 s g1 d1 r rp
theorem sr_ret (e : Ex G H) (g : G p = none) (dc : Dice p H) (h : EvR K p te σ G R) (k : ∀ v d G1 H1, Step G (hide p H) G1 H1 → G1 p = none → Dice p H1 → R d → Rp K G1 v d → Dn.rt v H1) : tRet te Dn σ H := h H e g dc _ k
/-- p[j] = e, p an own list in slot i, e may read it -/
theorem s_setO {i j : Nat} {xs : List V} (e : Ex G H) (hp : G p = none) (hx : H p = some (.lst xs)) (hi : σ[i]? = some (some (.ref p))) (h : EvD K te σ (upd G p (.lst xs)) d) (hf : d.flat = true) (hj : j < xs.length)
    (k : ∀ G1 H1, Step G H G1 H1 → G1 p = none → Dn.nx σ (upd H1 p (.lst (xs.set j d.toV)))) : tAsg te (gSub (tVar i) (tC (.int j)) rSetL) Dn σ H :=
  h H (ex_own e hx) _ fun v G1 H1 s r => by
    obtain ⟨G2, s2, g2, x2, _⟩ := s.thaw hp hx
    rw [(r.flat hf).1]
    exact ⟨_, hi, p, xs, (j : Int), j, rfl, rfl, x2, Evl.ixN_nat hj, k G2 H1 s2 g2⟩
theorem q_setO {i j : Nat} {xs : List V} (e : Ex G H) (hp : G p = none) (hx : H p = some (.lst xs)) (hi : σ[i]? = some (some (.ref p))) (h : EvD K te σ (upd G p (.lst xs)) d) (hf : d.flat = true) (hj : j < xs.length)
    (k : ∀ G1 H1, Step G H G1 H1 → G1 p = none → tz Dn σ (upd H1 p (.lst (xs.set j d.toV)))) : tSeq (tAsg te (gSub (tVar i) (tC (.int j)) rSetL)) tz Dn σ H := s_setO (Dn := { Dn with nx := tz Dn }) e hp hx hi h hf hj k
theorem s_retO {o : HO} (e : Ex G H) (hp : G p = none) (hx : H p = some o) (h : EvD K te σ (upd G p o) d) (hf : d.flat = true) (k : ∀ v G1 H1, Step G H G1 H1 → G1 p = none → H1 p = some o → Rp K G1 v d → Dn.rt v H1) : tRet te Dn σ H := h H (ex_own e hx) _ fun v G1 H1 s r => by
  obtain ⟨G2, s2, g2, x2, _⟩ := s.thaw hp hx
  exact k v G2 H1 s2 g2 x2 (r.flat_any hf)
/-- the ints of the script -/
theorem i_script {i : Nat} {q : Addr} {ns : List Int} (hi : σ[i]? = some (some (.ref q))) (hs : SqL K G q (ns.map V.int)) : EvI K (iSeq K (tVar i)) σ G ns.length (nth (ns.map D.int)) := fun H e R k =>
  .inl ⟨_, hi, q, rfl, ⟨_, ex_l e hs⟩, k _ G H (Step.refl e)
    { goes := fun i H hi e => ⟨ns.map V.int, (ns.map V.int)[i]'(by rw [List.length_map]; exact hi), ex_l e hs, by simp [hi]⟩
      stops := fun H e => ⟨ns.map V.int, ex_l e hs, by rw [List.length_map]; exact Nat.le_refl _⟩
      yields := fun i G1 H x H' hi e1 e2 y => by
        obtain ⟨rfl, y⟩ := y
        have hx := y _ (ex_l e2 (ex_l e1 hs))
        rw [List.getElem?_map, List.getElem?_eq_getElem hi] at hx
        have hx' : V.int ns[i] = x := Option.some.inj hx
        subst hx'
        exact ⟨G1, Step.refl e2, by rw [nth_map (List.getElem?_eq_getElem hi)]; exact .int _⟩ }⟩
end
end J

/-! Loops that draw; new lists by draws. -/
namespace J
open PySem L2 Evl
/-- a step beside the draws -/
structure Sd (p : Addr) (G H G' H' : Hp) : Prop where
  s : Step G (hide p H) G' H'
  g : G' p = none
  d : Dice p H'
section
variable {K : PySem.W.Frag} {σ : L2.St} {p : Addr} {G G0 H0 G1 G2 H H1 H2 : Hp} {ta tb te tx : TE} {t u : TT} {x y z v : V} {d d1 d2 d3 : D} {ds es : List D} {as bs : TA} {j k m : Int} {a b c : Bool} {n : Nat} {Y : Nat → D} {wi : TI} {g : TG} {js : List Nat}
variable {R RA RB : D → Prop} {Rs Rs1 : List D → Prop} {Dn : Ends} {tu tw tz : TS}
theorem Sd.trans (a : Sd p G0 H0 G H) (b : Sd p G H G1 H1) : Sd p G0 H0 G1 H1 := ⟨a.s.transR b.s, b.g, b.d⟩
theorem Sd.then (a : Sd p G0 H0 G H) (b : Step G H G1 H1) : Sd p G0 H0 G1 H1 := let ⟨s1, g1, d1⟩ := b.toR a.g a.d; ⟨a.s.transR s1, g1, d1⟩
theorem Sd.refl (e : Ex G H) (g : G p = none) (d : Dice p H) : Sd p G H G H := ⟨Step.start e g, g, d⟩
theorem Sd.keep {q : Addr} {o : HO} (s : Sd p G H G1 H1) (n : q ≠ p) (g : G q = none) (x : H q = some o) (t : isTup o = false := by rfl) : G1 q = none ∧ H1 q = some o := s.s.keep g ((hide_ne n).trans x) t
theorem Sd.ii (s : Sd p G H G1 H1) : Ex G1 H1 := s.s.i
theorem Sd.gg (s : Sd p G H G1 H1) : Ex G G1 := s.s.g
theorem Sd.pre {q : Addr} (s : Sd p G H G1 H1) (h : H1 q = none) (n : q ≠ p) : H q = none := by
  cases z : H q with
  | none => rfl
  | some o => rw [s.s.h q o ((hide_ne n).trans z)] at h; cases h
theorem Sd.mut {q : Addr} {o : HO} (s : Sd p G H G1 H1) (n : q ≠ p) (h : H q = none) (g : G1 q = none) : Sd p G H G1 (upd H1 q o) :=
  ⟨s.s.mut ((hide_ne n).trans h) g, s.g, s.d.mut n⟩
theorem Dice.ne {q : Addr} (d : Dice p H) (h : H q = none) : q ≠ p := fun z => by
  obtain ⟨xs, hx⟩ := d.some
  rw [z, hx] at h
  cases h
/-- an own object beside the draws -/
theorem Sd.own {q : Addr} {o : HO} (s : Sd p G0 H0 G H) (h : H q = none) : Sd p G0 H0 G (upd H q o) := s.then (Step.own s.s.i h)
theorem Step.thawR {q : Addr} {o : HO} {G' H' : Hp} (n : q ≠ p) (hq : G q = none) (hx : H q = some o) (s : Step (upd G q o) (hide p H) G' H') : ∃ G2, Step G (hide p H) G2 H' ∧ G2 q = none ∧ H' q = some o ∧ (∀ b u, b ≠ q → G' b = some u → G2 b = some u) ∧ ∀ b, G' b = none → G2 b = none := by
  refine ⟨fun b => if b = q then none else G' b, ⟨fun b u hb => ?_, fun b u hb => ?_, s.h, fun b u h1 h2 h3 => ?_⟩, if_pos rfl, s.h q o ((hide_ne n).trans hx), fun b u hb h => (if_neg hb).trans h, fun b h => ?_⟩
  · have z : b ≠ q := fun z => by rw [z, hq] at hb; cases hb
    show (if b = q then none else G' b) = some u
    rw [if_neg z]
    exact s.g b u ((upd_ne z).trans hb)
  · have hb : (if b = q then none else G' b) = some u := hb
    by_cases z : b = q
    · rw [if_pos z] at hb; cases hb
    · rw [if_neg z] at hb; exact s.i b u hb
  · show (if b = q then none else G' b) = none
    by_cases z : b = q
    · rw [if_pos z]
    · rw [if_neg z]; exact s.n b u ((upd_ne z).trans h1) h2 h3
  · show (if b = q then none else G' b) = none
    by_cases z : b = q
    · rw [if_pos z]
    · rw [if_neg z]; exact h
/-- what is drawn while an own object is read -/
theorem EvR.own {q : Addr} {o : HO} (h : EvR K p te σ (upd G q o) R) (hf : ∀ d, R d → d.flat = true) (n : q ≠ p) (e : Ex G H) (gq : G q = none) (xq : H q = some o) (gp : G p = none) (dc : Dice p H) (Q : VK)
    (k : ∀ v d G1 H1, Sd p G H G1 H1 → G1 q = none → H1 q = some o → R d → Rp K G1 v d → Q v H1) : te σ H Q :=
  h H (ex_own e xq) (by rw [upd_ne (Ne.symm n)]; exact gp) dc Q fun v d G1 H1 s g1 d1 r rp => by
    obtain ⟨G2, s2, g2, x2, _, c2⟩ := s.thawR n gq xq
    exact k v d G2 H1 ⟨s2, c2 p g1, d1⟩ g2 x2 r (rp.flat_any (hf d r))
/-! ### new lists -/
def EvRF (K : PySem.W.Frag) (p : Addr) (te : TE) (σ : L2.St) (G : Hp) (R : List D → Prop) : Prop := ∀ H, Ex G H → G p = none → Dice p H → ∀ Q : VK, (∀ q xs ds G' H', Sd p G H G' H' → H q = none → G' q = none → H' q = some (.lst xs) → R ds → RpA K G' xs ds → Q (.ref q) H') → te σ H Q
theorem EvRF.toR (h : EvRF K p te σ G Rs) (i : ∀ ds, Rs ds → R (.lst ds)) : EvR K p te σ G R := fun H e g dc Q q => h H e g dc Q fun r xs ds G1 H1 s h1 h2 h3 rd rp => by
  have n : r ≠ p := dc.ne h1
  exact q _ (.lst ds) _ H1 (s.s.freeze ((hide_ne n).trans h1) h2 h3) (by rw [upd_ne (Ne.symm n)]; exact s.g) s.d (i ds rd) (.lst upd_same (rp.ex (Ex.new h2)))
theorem EvRF.imp (h : EvRF K p te σ G Rs) (i : ∀ ds, Rs ds → Rs1 ds) : EvRF K p te σ G Rs1 := fun H e g dc Q q => h H e g dc Q fun r xs ds G1 H1 s h1 h2 h3 rd rp => q r xs ds G1 H1 s h1 h2 h3 (i ds rd) rp
def spRF (K : PySem.W.Frag) (Pre : List D → Prop) (R : List D → List D → Prop) : Sp := fun vs H Q _ => ∃ p ws G ds, vs = .ref p :: ws ∧ Ex G H ∧ G p = none ∧ Dice p H ∧ RpA K G ws ds ∧ Pre ds ∧
  ∀ q xs es G' H', Sd p G H G' H' → H q = none → G' q = none → H' q = some (.lst xs) → R ds es → RpA K G' xs es → Q (.ref q) H'
theorem rf_call {Pre : List D → Prop} {RR : List D → List D → Prop} {E : XK} {i : Nat} (hi : σ[i]? = some (some (.ref p))) (h : EvRs K p as σ G fun ds => Pre ds ∧ ∀ d, RR ds d → Rs d) : EvRF K p (tCall (spRF K Pre RR) [] E (tCons (tVar i) as)) σ G Rs := fun H e g dc Q q =>
  ⟨_, hi, h H e g dc _ fun vs ds G1 H1 s1 g1 d1 r1 rp1 => ⟨p, vs, G1, ds, by rw [List.append_nil], s1.i, g1, d1, rp1, r1.1, fun r xs es G2 H2 s2 h1 h2 h3 r2 rp2 => by
    have S : Sd p G H G1 H1 := ⟨s1, g1, d1⟩
    exact q r xs es G2 H2 (S.trans s2) (S.pre h1 (d1.ne h1)) h2 h3 (r1.2 es r2) rp2⟩⟩
theorem rs_of (h : EvAs K as σ G ds) (hp : Rs ds) : EvRs K p as σ G Rs := fun H e g dc Q q => h H e _ fun vs G1 H1 s r => by
  obtain ⟨s1, g1, d1⟩ := s.toR g dc
  exact q vs ds G1 H1 s1 g1 d1 hp r
theorem rf_call1 {Pre : List D → Prop} {RR : List D → List D → Prop} {E : XK} {i : Nat} (hi : σ[i]? = some (some (.ref p))) (h : EvAs K as σ G ds) (hp : Pre ds) : EvRF K p (tCall (spRF K Pre RR) [] E (tCons (tVar i) as)) σ G (RR ds) :=
  rf_call hi (rs_of h ⟨hp, fun _ h => h⟩)
/-! ### tests -/
def EvBR (K : PySem.W.Frag) (p : Addr) (tt : TT) (σ : L2.St) (G : Hp) : Prop := ∀ H, Ex G H → G p = none → Dice p H → ∀ Q : Bool → Hp → Prop, (∀ b G' H', Sd p G H G' H' → Q b H') → tt σ H Q
def IsBl (d : D) : Prop := ∃ b, d = .bl b
theorem br_test (h : EvR K p te σ G IsBl) : EvBR K p (tTest te) σ G := fun H e g dc Q q => h H e g dc _ fun v d G1 H1 s1 g1 d1 ⟨b, hb⟩ rp => ⟨b, by subst hb; exact rp.bl_of, q b G1 H1 ⟨s1, g1, d1⟩⟩
theorem br_B (h : EvR K p te σ G IsBl) : EvBR K p (tB te) σ G := fun H e g dc Q q => h H e g dc _ fun v d G1 H1 s1 g1 d1 ⟨b, hb⟩ rp => ⟨b, by subst hb; exact rp.bl_of, q b G1 H1 ⟨s1, g1, d1⟩⟩
theorem br_of (h : EvB t σ G b) : EvBR K p t σ G := fun H e g dc Q q => h H e _ fun G1 H1 s => q b G1 H1 ((Sd.refl e g dc).then s)
theorem r_cmp {f : Int → Int → Bool} {a1 b1 a2 b2 : Nat} (ha : EvR K p ta σ G (Btw a1 b1)) (hb : EvR K p tb σ G (Btw a2 b2)) : EvR K p (tOp (rI0 fun i j => .bl (f i j)) ta tb) σ G IsBl :=
  r_op ha hb fun x y d1 d2 G1 H1 Q e1 e2 r1 r2 rp1 rp2 q => by
    obtain ⟨i, rfl, _⟩ := r1
    obtain ⟨j, rfl, _⟩ := r2
    exact ⟨i, j, rp1.int_of, rp2.int_of, q _ (.bl (f i j)) ⟨_, rfl⟩ (.bl _)⟩
theorem r_lt (h : EvR K p te σ G (Lt n)) : EvR K p te σ G (Btw 0 (n - 1)) := h.imp fun d ⟨r, h1, h2⟩ => ⟨r, h1, Nat.zero_le _, by omega⟩
/-! ### for, while -/
/-- a range whose end is drawn -/
theorem s_rngR {lo hi : Nat} (hb : hi ≤ 1000000) (e : Ex G H) (gp : G p = none) (dc : Dice p H) (h : EvR K p te σ G (Btw lo hi)) (k : ∀ r G1 H1, lo ≤ r → r ≤ hi → Sd p G H G1 H1 → tFor (iRng1 (tCons (tC (.int (r : Nat))) tNil)) g tu Dn σ H1) : tFor (iRng1 (tCons te tNil)) g tu Dn σ H :=
  h H e gp dc _ fun v d G1 H1 s1 g1 d1 rd rp => by
    obtain ⟨r, rfl, h1, h2⟩ := rd
    have z := rp.int_of
    subst z
    exact k r G1 H1 h1 h2 ⟨s1, g1, d1⟩
theorem q_rngR {lo hi : Nat} (hb : hi ≤ 1000000) (e : Ex G H) (gp : G p = none) (dc : Dice p H) (h : EvR K p te σ G (Btw lo hi)) (k : ∀ r G1 H1, lo ≤ r → r ≤ hi → Sd p G H G1 H1 → tSeq (tFor (iRng1 (tCons (tC (.int (r : Nat))) tNil)) g tu) tz Dn σ H1) : tSeq (tFor (iRng1 (tCons te tNil)) g tu) tz Dn σ H :=
  s_rngR (Dn := { Dn with nx := tz Dn }) hb e gp dc h k
theorem s_while (S : Step G0 H0 G H) (Pv : Nat → L2.St → Hp → Hp → Prop) (m0 : Nat) (h0 : Pv m0 σ G H)
    (hs : ∀ m σ' G' H', Step G0 H0 G' H' → Ex G G' → Pv m σ' G' H' → t σ' H' fun b H1 => if b = true then
      ∃ N : L2.St → Hp → Prop, (∀ σ2 H3, N σ2 H3 → ∃ m', m' < m ∧ ∃ G3, Step G0 H0 G3 H3 ∧ Ex G G3 ∧ Pv m' σ2 G3 H3) ∧ tu { Dn with nx := N, ct := N, bk := Dn.nx } σ' H1 else Dn.nx σ' H1) : tWhile t tu Dn σ H :=
  ⟨fun m σ' H' => ∃ G', Step G0 H0 G' H' ∧ Ex G G' ∧ Pv m σ' G' H', ⟨m0, G, S, Ex.refl _, h0⟩, fun m σ' H' ⟨G', S', e', p'⟩ => hs m σ' G' H' S' e' p'⟩
theorem q_while (S : Step G0 H0 G H) (Pv : Nat → L2.St → Hp → Hp → Prop) (m0 : Nat) (h0 : Pv m0 σ G H)
    (hs : ∀ m σ' G' H', Step G0 H0 G' H' → Ex G G' → Pv m σ' G' H' → t σ' H' fun b H1 => if b = true then
      ∃ N : L2.St → Hp → Prop, (∀ σ2 H3, N σ2 H3 → ∃ m', m' < m ∧ ∃ G3, Step G0 H0 G3 H3 ∧ Ex G G3 ∧ Pv m' σ2 G3 H3) ∧ tu { Dn with nx := N, ct := N, bk := tz Dn } σ' H1 else tz Dn σ' H1) : tSeq (tWhile t tu) tz Dn σ H := s_while (Dn := { Dn with nx := tz Dn }) S Pv m0 h0 hs
/-! ### comprehensions whose test draws -/
theorem f_lcR {tt : TT} {vs : List Nat} (E : Nat → List D) (f : Nat → D) (hi : EvI K wi σ G n Y) (hg : ∀ i, i < n → EvG K g (Y i) js (E i)) (hz : n ≤ 1000000)
    (hl : ∀ i, i < n → (E i).length = js.length)
    (hw : ∀ us : List V, us.length = js.length → wipe (setAll (wipe σ vs) js us) vs = wipe σ vs)
    (ht : ∀ i, i < n → ∀ G1, Ex G G1 → ∀ us, RpA K G1 us (E i) → EvBR K p tt (setAll (wipe σ vs) js us) G1)
    (he : ∀ i, i < n → ∀ G1, Ex G G1 → ∀ us, RpA K G1 us (E i) → EvD K te (setAll (wipe σ vs) js us) G1 (f i)) : EvRF K p (tLc wi g tt te vs) σ G (fun ds => ∃ b, ds = pick n b f) := fun H e gp dc Q q =>
  hi H e _ fun J G1 H1 s1 wk Dl hD => by
    have S1 := (Sd.refl e gp dc).then s1
    have nD : Dl ≠ p := S1.d.ne hD
    have hDh : H Dl = none := S1.pre hD nD
    refine ⟨fun i m H' => m = n - i ∧ i ≤ n ∧ ∃ G' xs b, Sd p G H G' H' ∧ Ex G1 G' ∧ G' Dl = none ∧ H' Dl = some (.lst xs) ∧ RpA K G' xs (pick i b f), ⟨n, by omega, Nat.zero_le _, G1, [], fun _ => false, S1.own hD, Ex.refl _, Step.back S1.s.i hD, upd_same, .nil⟩, ?_⟩
    rintro i m H' ⟨rfl, hi', G', xs, b, S2, e2, hD1, hD2, r2⟩
    by_cases hlt : i < n
    · refine .inr ⟨wk.goes i H' hlt (e2.trans S2.ii), fun H2 => i + 1 ≤ n ∧ ∃ G' xs b, Sd p G H G' H2 ∧ Ex G1 G' ∧ G' Dl = none ∧ H2 Dl = some (.lst xs) ∧ RpA K G' xs (pick (i + 1) b f), fun H2 pp => ⟨n - (i + 1), by omega, rfl, pp⟩, fun x H2 y => ?_⟩
      obtain ⟨G2, s3, r3⟩ := wk.yields i G' H' x H2 hlt e2 S2.ii y
      refine hg i hlt G2 H2 x _ _ s3.i r3 fun us ru => ⟨hw us (by rw [ru.len]; exact hl i hlt), ?_⟩
      obtain ⟨g3, k3⟩ := s3.keep hD1 hD2
      have S3 := S2.then s3
      refine (ht i hlt G2 S3.gg us ru) H2 S3.ii S3.g S3.d _ fun bb G3 H3 s4 => ?_
      obtain ⟨g4, k4⟩ := s4.keep nD g3 k3
      have S4 := S3.trans s4
      cases bb with
      | true =>
        show te (setAll (wipe σ vs) js us) H3 _
        refine ((he i hlt G2 S3.gg us ru).mono s4.gg) H3 S4.ii _ fun v G4 H4 s5 r5 => ?_
        obtain ⟨g5, k5⟩ := s5.keep g4 k4
        have S5 := S4.then s5
        refine ⟨xs, k5, ?_, hlt, G4, xs ++ [v], fun j => if j = i then true else b j, S5.mut nD hDh g5, e2.trans (s3.g.trans (s4.gg.trans s5.g)), g5, upd_same, ?_⟩
        · rw [r2.len]
          have := pick_len (n := i) b f
          rw [sizeLine_eq]
          omega
        · have z : pick i (fun j => if j = i then true else b j) f = pick i b f := by
            unfold pick
            congr 1
            refine List.filter_congr fun j hj => ?_
            rw [if_neg (by have := List.mem_range.mp hj; omega)]
          rw [pick_yes (if_pos rfl), z]
          exact (r2.ex (s3.g.trans (s4.gg.trans s5.g))).snoc r5
      | false =>
        refine ⟨hlt, G3, xs, fun j => if j = i then false else b j, S4, e2.trans (s3.g.trans s4.gg), g4, k4, ?_⟩
        have z : pick i (fun j => if j = i then false else b j) f = pick i b f := by
            unfold pick
            congr 1
            refine List.filter_congr fun j hj => ?_
            rw [if_neg (by have := List.mem_range.mp hj; omega)]
        rw [pick_no (if_pos rfl), z]
        exact r2.ex (s3.g.trans s4.gg)
    · have z : i = n := by omega
      subst z
      exact .inl ⟨wk.stops H' (e2.trans S2.ii), q Dl xs _ G' H' S2 hDh hD1 hD2 ⟨b, rfl⟩ r2⟩
/-! ### draws within bounds -/
theorem r_w {a1 b1 a2 b2 : Nat} (h : EvR K p te σ G (Btw a1 b1)) (h1 : a2 ≤ a1) (h2 : b1 ≤ b2) : EvR K p te σ G (Btw a2 b2) := h.imp fun d ⟨r, e, h3, h4⟩ => ⟨r, e, by omega, by omega⟩
theorem pb_nil : EvRs K p tNil σ G fun ds => ds.length = 0 ∧ ∀ d ∈ ds, R d := rs_nil ⟨rfl, fun _ h => nomatch h⟩
theorem pb_cons (h1 : EvR K p te σ G R) (h2 : EvRs K p as σ G fun ds => ds.length = n ∧ ∀ d ∈ ds, R d) : EvRs K p (tCons te as) σ G fun ds => ds.length = n + 1 ∧ ∀ d ∈ ds, R d :=
  rs_cons h1 h2 fun d ds hd ⟨hl, hr⟩ => ⟨by rw [List.length_cons, hl], fun x hx => by
    cases hx with
    | head => exact hd
    | tail _ h => exact hr x h⟩
theorem r_ixL (ha : EvD K ta σ G (.lst ds)) (hb : EvR K p tb σ G (Lt ds.length)) (hr : ∀ d ∈ ds, R d) : EvR K p (tOp (rIx K) ta tb) σ G R :=
  r_op (RA := fun d => d = .lst ds) (r_of ha rfl) hb fun x y d1 d2 G1 H1 Q e1 e2 q1 q2 rp1 rp2 q => by
    subst q1
    obtain ⟨i, rfl, hi⟩ := q2
    obtain ⟨l, xs, rfl, hs, hx⟩ := rp1.lst_of
    obtain ⟨v, hv, rv⟩ := hx.at (List.getElem?_eq_getElem hi)
    exact .inl ⟨l, xs, (i : Int), v, rfl, rp2.int_of, .of (e2 _ _ hs), atI_nat hv, q v ds[i] (hr _ (List.getElem_mem hi)) rv⟩
theorem s_appR {i : Nat} {q : Addr} {xs : List V} (e : Ex G H) (gp : G p = none) (dc : Dice p H) (nq : q ≠ p) (gq : G q = none) (xq : H q = some (.lst xs)) (hi : σ[i]? = some (some (.ref q))) (h : EvR K p te σ G R) (hz : xs.length < 100000)
    (k : ∀ v d G1 H1, Sd p G H G1 H1 → G1 q = none → R d → Rp K G1 v d → Dn.nx σ (upd H1 q (.lst (xs ++ [v])))) : tDrop (tBM K "list" rAppend (tVar i) (tCons te tNil)) Dn σ H :=
  ⟨_, hi, Or.inl ⟨rfl, xs, .of xq⟩, h H e gp dc _ fun v d G1 H1 s g1 d1 rd r => by
    have S : Sd p G H G1 H1 := ⟨s, g1, d1⟩
    obtain ⟨gq1, xq1⟩ := S.keep nq gq xq
    exact ⟨q, xs, v, rfl, rfl, xq1, sz_lt hz, k v d G1 H1 S gq1 rd r⟩⟩
theorem q_appR {i : Nat} {q : Addr} {xs : List V} (e : Ex G H) (gp : G p = none) (dc : Dice p H) (nq : q ≠ p) (gq : G q = none) (xq : H q = some (.lst xs)) (hi : σ[i]? = some (some (.ref q))) (h : EvR K p te σ G R) (hz : xs.length < 100000)
    (k : ∀ v d G1 H1, Sd p G H G1 H1 → G1 q = none → R d → Rp K G1 v d → tz Dn σ (upd H1 q (.lst (xs ++ [v])))) : tSeq (tDrop (tBM K "list" rAppend (tVar i) (tCons te tNil))) tz Dn σ H := s_appR (Dn := { Dn with nx := tz Dn }) e gp dc nq gq xq hi h hz k
theorem Sd.freeze {q : Addr} {o : HO} (s : Sd p G0 H0 G H) (n : q ≠ p) (h : H0 q = none) (g : G q = none) (x : H q = some o) : Sd p G0 H0 (upd G q o) H :=
  ⟨s.s.freeze ((hide_ne n).trans h) g x, by rw [upd_ne (Ne.symm n)]; exact s.g, s.d⟩
/-- a drawn value, with the step as one -/
theorem qr_asg' {i : Nat} (S : Sd p G0 H0 G H) (h : EvR K p te σ G R) (k : ∀ v d G1 H1, Sd p G H G1 H1 → Sd p G0 H0 G1 H1 → R d → Rp K G1 v d → tz Dn (σ.set i (some v)) H1) : tSeq (tAsg te (gName i)) tz Dn σ H :=
  qr_asg S.ii S.g S.d h fun v d G1 H1 s g1 d1 r rp => k v d G1 H1 ⟨s, g1, d1⟩ (S.trans ⟨s, g1, d1⟩) r rp
theorem sr_ret' (S : Sd p G0 H0 G H) (h : EvR K p te σ G R) (k : ∀ v d G1 H1, Sd p G0 H0 G1 H1 → R d → Rp K G1 v d → Dn.rt v H1) : tRet te Dn σ H :=
  sr_ret S.ii S.g S.d h fun v d G1 H1 s g1 d1 r rp => k v d G1 H1 (S.trans ⟨s, g1, d1⟩) r rp
theorem q_newLR {i : Nat} (S : Sd p G0 H0 G H) (k : ∀ q H1, H q = none → H0 q = none → q ≠ p → G q = none → Sd p G0 H0 G H1 → Step G H G H1 → H1 q = some (.lst []) → tz Dn (σ.set i (some (.ref q))) H1) : tSeq (tAsg (tLst tNil) (gName i)) tz Dn σ H :=
  q_newL S.ii fun q H1 h1 h2 s h3 => k q H1 h1 (S.pre h1 (S.d.ne h1)) (S.d.ne h1) h2 (S.then s) s h3
theorem r_min2 {a1 b1 a2 b2 : Nat} (ha : EvR K p ta σ G (Btw a1 b1)) (hb : EvR K p tb σ G (Btw a2 b2)) : EvR K p (tCB (fun xs H Q => ∃ i j, xs = [.int i, .int j] ∧ Q (.int (if j < i then j else i)) H) (tCons ta (tCons tb tNil))) σ G (Btw (min a1 a2) (min b1 b2)) := fun H e g dc Q q =>
  ha H e g dc _ fun v d G1 H1 s1 g1 d1 ⟨i, e1, h1, h2⟩ rp1 => (hb.mono s1.g) H1 s1.i g1 d1 _ fun w d2 G2 H2 s2 g2 d2 ⟨j, e2, h3, h4⟩ rp2 => by
    subst e1 e2
    refine ⟨i, j, by rw [rp1.int_of, rp2.int_of], ?_⟩
    have z : (if (j : Int) < i then (j : Int) else i) = ((min i j : Nat) : Int) := by split <;> omega
    rw [z]
    exact q _ (.int ((min i j : Nat) : Int)) G2 H2 (s1.transR s2) g2 d2 ⟨min i j, rfl, by omega, by omega⟩ (.int _)
theorem s_dputTR {i : Nat} {q : Addr} {kvs : List (List Key × V)} {ks : List Key} (e : Ex G H) (gp : G p = none) (dc : Dice p H) (nq : q ≠ p) (gq : G q = none) (xq : H q = some (.dT kvs)) (hi : σ[i]? = some (some (.ref q))) (hv : EvR K p te σ G R) (hf : ∀ d, R d → d.flat = true) (hk : EvD K tb σ G d2) (hkd : d2 = .tup (ks.map kD)) (hz : kvs.length < 1000000)
    (k : ∀ d G1 H1, Sd p G H G1 H1 → G1 q = none → R d → Dn.nx σ (upd H1 q (.dT (putK kvs ks d.toV)))) : sDPut (tVar i) tb te Dn σ H :=
  hv H e gp dc _ fun v d G1 H1 s1 g1 dc1 rd r1 => ⟨_, hi, (hk.mono s1.g) H1 s1.i _ fun y G2 H2 s2 r2 => by
    subst hkd
    obtain ⟨b, xs, rfl, hb, hxs⟩ := r2.tup_of
    have z := hxs.keys
    subst z
    have S : Sd p G H G2 H2 := (Sd.mk s1 g1 dc1).then s2
    obtain ⟨g2, x2⟩ := S.keep nq gq xq
    rw [(r1.flat (hf d rd)).1]
    exact ⟨q, _, rfl, DPut.t x2 (s2.i _ _ hb) (by rw [sizeLine_eq]; omega), k d G2 H2 S g2 rd⟩⟩
theorem r_pow6 : EvR K p (tOp (rI CPow fun i j => .int (i ^ j.toNat)) (tC (.int 10)) (tC (.int 6))) σ G (Btw 1000000 1000000) := r_n (EvD.int (e_pow (i := 10) (j := 6) e_int e_int ⟨by decide, by decide, by decide⟩) (by decide))
theorem q_newTR {i : Nat} (S : Sd p G0 H0 G H) (k : ∀ q H1, H q = none → H0 q = none → q ≠ p → G q = none → Sd p G0 H0 G H1 → Step G H G H1 → H1 q = some (.dT []) → tz Dn (σ.set i (some (.ref q))) H1) : tSeq (tAsg tDNewT (gName i)) tz Dn σ H :=
  q_newT S.ii fun q H1 h1 h2 s h3 => k q H1 h1 (S.pre h1 (S.d.ne h1)) (S.d.ne h1) h2 (S.then s) s h3
theorem qrf_asg {i : Nat} (S : Sd p G0 H0 G H) (h : EvRF K p te σ G Rs) (k : ∀ q xs ds G1 H1, Sd p G H G1 H1 → H q = none → G1 q = none → H1 q = some (.lst xs) → Rs ds → RpA K G1 xs ds → tz Dn (σ.set i (some (.ref q))) H1) : tSeq (tAsg te (gName i)) tz Dn σ H :=
  h H S.ii S.g S.d _ k
theorem srf_ret (S : Sd p G0 H0 G H) (h : EvRF K p te σ G Rs) (k : ∀ q xs ds G1 H1, Sd p G0 H0 G1 H1 → H0 q = none → G1 q = none → H1 q = some (.lst xs) → Rs ds → RpA K G1 xs ds → Dn.rt (.ref q) H1) : tRet te Dn σ H :=
  h H S.ii S.g S.d _ fun q xs ds G1 H1 s h1 h2 h3 h4 h5 => k q xs ds G1 H1 (S.trans s) (S.pre h1 (S.d.ne h1)) h2 h3 h4 h5
/-- t1, t2, .. = a drawn tuple -/
theorem qr_asgT (S : Sd p G0 H0 G H) (h : EvR K p te σ G R) (k : ∀ v d G1 H1, Sd p G H G1 H1 → Sd p G0 H0 G1 H1 → R d → Rp K G1 v d → g v σ H1 (tz Dn)) : tSeq (tAsg te g) tz Dn σ H :=
  h H S.ii S.g S.d _ fun v d G1 H1 s g1 d1 r rp => k v d G1 H1 ⟨s, g1, d1⟩ (S.trans ⟨s, g1, d1⟩) r rp
theorem r_lit {i : Int} (h : 0 ≤ i) : EvR K p (tC (.int i)) σ G (Btw i.toNat i.toNat) := r_n (EvD.int e_int (by omega))
theorem pbw_one {a1 b1 : Nat} (h : EvR K p te σ G (Btw a1 b1)) : EvRs K p (tCons te tNil) σ G fun ds => ds.length = 1 ∧ ∀ d ∈ ds, Btw a1 b1 d := pb_cons h pb_nil
theorem pbw_cons {a1 b1 a2 b2 n : Nat} (h : EvR K p te σ G (Btw a1 b1)) (h2 : EvRs K p as σ G fun ds => ds.length = n ∧ ∀ d ∈ ds, Btw a2 b2 d) : EvRs K p (tCons te as) σ G fun ds => ds.length = n + 1 ∧ ∀ d ∈ ds, Btw (min a1 a2) (max b1 b2) d :=
  rs_cons (r_w h (Nat.min_le_left _ _) (Nat.le_max_left _ _)) h2 fun d ds hd ⟨hl, hr⟩ => ⟨by rw [List.length_cons, hl], fun x hx => by
    cases hx with
    | head => exact hd
    | tail _ h =>
      obtain ⟨r, e, h1, h2⟩ := hr x h
      exact ⟨r, e, by omega, by omega⟩⟩
end
def Pre_off (ds : List D) : Prop := ∃ m : Nat, ds = [.int m] ∧ 0 < m ∧ m ≤ 1000000
def R_off (ds : List D) (d : D) : Prop := ∃ m : Nat, ds = [.int m] ∧ Lt m d
section
variable {K : PySem.W.Frag}
theorem r_off {σ : L2.St} {p : Addr} {G : Hp} {te : TE} {E : XK} {lo hi i : Nat} (hs : σ[i]? = some (some (.ref p))) (h : EvR K p te σ G (Btw lo hi)) (h0 : 0 < lo) (h1 : hi ≤ 1000000) : EvR K p (tCall (spR K Pre_off R_off) [] E (tCons (tVar i) (tCons te tNil))) σ G (Btw 0 (hi - 1)) :=
  r_call hs (rs_one h fun d ⟨m, hd, h2, h3⟩ => ⟨⟨m, by rw [hd], by omega, by omega⟩, fun d' ⟨m', hm, r, hr, hl⟩ => ⟨r, hr, Nat.zero_le _, by
    have hm : D.int m = D.int m' := by rw [← hd]; injection hm
    injection hm with hm
    omega⟩⟩)
theorem r_offN {σ : L2.St} {p : Addr} {G : Hp} {te : TE} {E : XK} {n i : Nat} (hs : σ[i]? = some (some (.ref p))) (h : EvD K te σ G (.int n)) (h0 : 0 < n) (h1 : n ≤ 1000000) : EvR K p (tCall (spR K Pre_off R_off) [] E (tCons (tVar i) (tCons te tNil))) σ G (Lt n) :=
  (r_call1 hs (a_one h) ⟨n, rfl, h0, h1⟩).imp fun d ⟨m', hm, h⟩ => by
    have hm : D.int n = D.int m' := by injection hm
    injection hm with hm
    have hm : n = m' := by omega
    rw [hm]
    exact h
end
end J

/-! The head: the facts of the defs by names, and what else is looked at. -/
namespace J
open PySem PySem.Spec PyProof.Rows L2
theorem fun_of {K : PySem.W.Frag} {x q : Str} {st : Stmt} {f : Addr} {fd : FuncData} (F : FunD K x q (defArgs st) (defBody st) (defScope st) [] [] f fd) : Fun K x q st f fd := by
  obtain ⟨⟨oc, od, dV, kV, doc, pm, an, cdv, ct, osl, e, lk, c, dv, kw⟩, kp⟩ := F
  rcases dv with ⟨_, rfl⟩ | ⟨z, _⟩
  · exact ⟨⟨oc, od, kV, doc, pm, an, cdv, ct, osl, e, lk, c⟩, kp⟩
  · exact absurd rfl z
def SaysE (fa : List He.Fa) (fn : List He.DefD) (ex : PySem.W.Frag → Bool) (K : PySem.W.Frag) : Prop := He.SaysD fa fn K ∧ ex K = true
def obsE (n : Nat) (fa : List He.Fa) (fn : List He.DefD) (ex : PySem.W.Frag → Bool) (g : Addr → Option Obj) : He.AlD × Bool := (He.obsDG n fa fn g, ex (He.frG g (He.asD g n)))
def hookE (n : Nat) (fa : List He.Fa) (fn : List He.DefD) (ex : PySem.W.Frag → Bool) : PySem.W.Hook where
  α := He.AlD × Bool
  obs := fun s => obsE n fa fn ex s.heap.get?
  val := fun _ => (He.valD fn, true)
  says := fun _ h => ∃ K : PySem.W.Frag, K.In h ∧ SaysE fa fn ex K
  of := fun _ _ e => ⟨_, He.frG_in, congrArg Prod.fst e, congrArg Prod.snd e⟩
  keeps := fun _ _ _ ⟨K, hK, c⟩ k => ⟨K, PySem.W.Frag.In.keeps hK k, c⟩
theorem obsE_eq {n : Nat} {fa : List He.Fa} {fn : List He.DefD} {ex : PySem.W.Frag → Bool} {g : Addr → Option Obj} {s : Shared} (h : ∀ a, g a = s.heap.get? a) : obsE n fa fn ex g = (hookE n fa fn ex).obs s := by
  have e : g = s.heap.get? := funext h
  rw [e] <;> rfl
end J

namespace J
open PySem L2 Evl
local macro_rules | `(tactic| walk_at "rp") => `(tactic| first | assumption | exact Rp.int _ | exact Rp.bl _ | exact Rp.str _ | exact Rp.non)
local macro_rules | `(tactic| walk_at "at") => `(tactic| first | rfl | assumption)
local macro_rules | `(tactic| walk_at "ev") => `(tactic| first
  | (with_reducible exact e_int) | (with_reducible exact e_bl) | (with_reducible exact e_str) | (with_reducible exact e_non)
  | ((with_reducible refine' e_var ?k1 ?k2); (case k1 => rfl); (case k2 => walk_at "rp"))
  | ((with_reducible refine' e_ix ?k1 ?k2 ?k3); (case k1 => walk_at "ev"); (case k2 => walk_at "ev"); (case k3 => walk_at "at"))
  | ((with_reducible refine' e_addI ?k1 ?k2); (case k1 => walk_at "ev"); (case k2 => walk_at "ev"))
  | ((with_reducible refine' e_sub ?k1 ?k2); (case k1 => walk_at "ev"); (case k2 => walk_at "ev"))
  | ((with_reducible refine' e_lt ?k1 ?k2); (case k1 => walk_at "ev"); (case k2 => walk_at "ev"))
  | ((with_reducible refine' e_le ?k1 ?k2); (case k1 => walk_at "ev"); (case k2 => walk_at "ev"))
  | ((with_reducible refine' e_gt ?k1 ?k2); (case k1 => walk_at "ev"); (case k2 => walk_at "ev"))
  | ((with_reducible refine' e_ge ?k1 ?k2); (case k1 => walk_at "ev"); (case k2 => walk_at "ev"))
  | ((with_reducible refine' e_eq ?k1 ?k2 ?k3); (case k1 => walk_at "ev"); (case k2 => walk_at "ev"); (case k3 => rfl))
  | ((with_reducible refine' e_ne ?k1 ?k2 ?k3); (case k1 => walk_at "ev"); (case k2 => walk_at "ev"); (case k3 => rfl))
  | ((with_reducible refine' e_isi ?k1 ?k2 ?k3); (case k1 => walk_at "ev"); (case k2 => rfl); (case k3 => rfl))
  | ((with_reducible refine' e_len ?k1 ?k2); (case k1 => walk_at "ev"); (case k2 => rfl))
  | ((with_reducible refine' e_not ?k1); (case k1 => walk_at "ev"))
  | ((with_reducible refine' e_tup ?k1 ?k2); (case k1 => walk_at "as"); (case k2 => (show _ ≤ _; decide))))
local macro_rules | `(tactic| walk_at "as") => `(tactic| first
  | (with_reducible exact a_nil)
  | ((with_reducible refine' a_cons ?k1 ?k2); (case k1 => walk_at "ev"); (case k2 => walk_at "as")))
local macro_rules | `(tactic| walk_at "bt") => `(tactic| first
  | ((with_reducible refine' b_test ?k1); (case k1 => walk_at "ev"))
  | ((with_reducible refine' b_B ?k1); (case k1 => walk_at "ev"))
  | ((with_reducible refine' b_not ?k1); (case k1 => walk_at "bt")))
local macro_rules | `(tactic| walk_at "evq") => `(tactic| ((with_reducible refine' EvD.eq ?k1 ?k2); (case k1 => walk_at "ev"); (case k2 => rfl)))
local macro_rules | `(tactic| walk_at "btq") => `(tactic| ((with_reducible refine' EvB.eq ?k1 ?k2); (case k1 => walk_at "bt"); (case k2 => rfl)))
local macro_rules | `(tactic| walk_at "bf") => `(tactic| first
  | ((with_reducible refine' b_orF ?k1 ?k2); (case k1 => walk_at "bf"); (case k2 => walk_at "bf"))
  | ((with_reducible refine' b_notT ?k1); (case k1 => walk_at "btr"))
  | ((with_reducible refine' EvB.eq ?k1 ?k2); (case k1 => walk_at "bt"); (case k2 => first | rfl | assumption | (simp only [Bool.not_eq_false', decide_eq_true_eq, decide_eq_false_iff_not]; omega))))
local macro_rules | `(tactic| walk_at "btr") => `(tactic| first
  | ((with_reducible refine' b_andT ?k1 ?k2); (case k1 => walk_at "btr"); (case k2 => walk_at "btr"))
  | ((with_reducible refine' EvB.eq ?k1 ?k2); (case k1 => walk_at "bt"); (case k2 => first | rfl | assumption | (simp only [Bool.not_eq_true', decide_eq_true_eq, decide_eq_false_iff_not]; omega))))

local macro_rules | `(tactic| walk_at "dr") => `(tactic| first
  | ((with_reducible refine' r_lit ?k1); (case k1 => decide))
  | exact r_pow6
  | ((with_reducible refine' r_min2 ?k1 ?k2); (case k1 => walk_at "dr"); (case k2 => walk_at "dr"))
  | ((with_reducible refine' r_add ?k1 ?k2); (case k1 => walk_at "dr"); (case k2 => walk_at "dr"))
  | ((with_reducible refine' r_off ?k1 ?k2 ?k3 ?k4); (case k1 => rfl); (case k2 => walk_at "dr"); (case k3 => omega); (case k4 => omega))
  | ((with_reducible refine' r_pick ?k1 ?k2 ?k3); (case k1 => walk_at "drs"); (case k2 => exact r_offN rfl e_int (by decide) (by decide)); (case k3 => decide))
  | ((with_reducible refine' r_n ?k1); (case k1 => walk_at "ev")))
local macro_rules | `(tactic| walk_at "drs") => `(tactic| first
  | ((with_reducible refine' pbw_one ?k1); (case k1 => walk_at "dr"))
  | ((with_reducible refine' pbw_cons ?k1 ?k2); (case k1 => walk_at "dr"); (case k2 => walk_at "drs")))
local macro_rules | `(tactic| walk_at "drw") => `(tactic| (refine' r_w ?k1 ?k2 ?k3; (case k1 => walk_at "dr"); (case k2 => omega); (case k3 => omega)))

def top (i : Nat) : Stmt := PySem.Challenge.pw_judgehall_k05_what_matters.main.body.getD i (.Pass ⟨0, 0, 0, 0⟩)
structure Tx (K : PySem.W.Frag) (mg : Str → Option Value) : Prop where
  n_abs : mg "abs" = none
  n_all : mg "all" = none
  n_bool : mg "bool" = none
  n_dict : mg "dict" = none
  n_enumerate : mg "enumerate" = none
  n_int : mg "int" = none
  n_isinstance : mg "isinstance" = none
  n_len : mg "len" = none
  n_list : mg "list" = none
  n_min : mg "min" = none
  n_range : mg "range" = none
  n_sorted : mg "sorted" = none
  n_str : mg "str" = none
  n_sum : mg "sum" = none
  n_tuple : mg "tuple" = none
  c_FIRST : ∃ t, mg "FIRST" = some (.str (PySem.Str.ofString "first") t)
  c_RULES : ∃ a, mg "RULES" = some (.ref a) ∧ ∀ H, SqT K H a [V.str (PySem.Str.ofString "first"), V.str (PySem.Str.ofString "best"), V.str (PySem.Str.ofString "groups")]
  c_MOST_TEAMS : ∃ t, mg "MOST_TEAMS" = some (.int 12 t)
  c_MOST_TASKS : ∃ t, mg "MOST_TASKS" = some (.int 6 t)
  c_MOST_GROUPS : ∃ t, mg "MOST_GROUPS" = some (.int 4 t)
  c_MOST_TRIALS : ∃ t, mg "MOST_TRIALS" = some (.int 5 t)
  c_MOST_POINTS : ∃ t, mg "MOST_POINTS" = some (.int 100 t)
  c_MOST_END : ∃ t, mg "MOST_END" = some (.int 300 t)
  c_MOST_TRIES : ∃ t, mg "MOST_TRIES" = some (.int 200 t)
  c_MOST_TIME : ∃ t, mg "MOST_TIME" = some (.int 999 t)
  c_PASSED : ∃ t, mg "PASSED" = some (.str (PySem.Str.ofString "passed") t)
  c_FAILED : ∃ t, mg "FAILED" = some (.str (PySem.Str.ofString "failed") t)
  c_OPEN : ∃ t, mg "OPEN" = some (.str (PySem.Str.ofString "open") t)

section
variable {P : Program} {w : World} {K : PySem.W.Frag} {mg : Str → Option Value} {base : Heap}
abbrev s_is_between : Stmt := top 18
abbrev N_is_between : List Str := ["part", "low", "high"]
abbrev P_is_between : List Str := ["part", "low", "high"]
theorem sc_is_between : FnScope N_is_between P_is_between (defScope s_is_between) := ⟨rfl, rfl, rfl, by decide +kernel, rfl, by decide +kernel, by decide +kernel⟩

def isB : D → Int → Int → Bool
  | .int i, lo, hi => decide (lo ≤ i) && decide (i ≤ hi)
  | _, _, _ => false
def R_is_between (ds : List D) (r : D) : Prop := ∃ d lo hi, ds = [d, .int lo, .int hi] ∧ r = .bl (isB d lo hi)
abbrev sp_is_between (K : PySem.W.Frag) : Sp := spP K R_is_between
theorem ok_is_between {f : Addr} {fd : FuncData} (F : Fun K "is_between" "is_between" s_is_between f fd) (T : Tx K mg) : FnOk P w K mg base CX0 1 f fd P_is_between (sp_is_between K) := by
  refine F.ok sc_is_between (fun vs H Q E h => ?_) (fun cdv A outer s H vs Q E hr h => ?_)
  · obtain ⟨G, ds, r, e, ra, ⟨d, lo, hi, rfl, rfl⟩, q⟩ := h
    exact ra.len
  · obtain ⟨G, ds, r, e, ra, ⟨d, lo, hi, rfl, rfl⟩, q⟩ := h
    obtain ⟨v0, v1, v2, rfl, r0, r1, r2⟩ := ra.three
    refine ⟨_, (pss_one (ps_ret (pe_and (pe_callB (call_isiK' K rfl) (by rfl) T.n_isinstance (by decide +kernel) (pa_cons (pv 0) (pa_cons (pe_ty (n := "int") (by rfl) T.n_int (by decide +kernel)) pa_nil))) (pe_and (pe_not (pe_callB (call_isiK' K rfl) (by rfl) T.n_isinstance (by decide +kernel) (pa_cons (pv 0) (pa_cons (pe_ty (n := "bool") (by rfl) T.n_bool (by decide +kernel)) pa_nil)))) (pe_one (pe_chain op_le op_le (pv 1) (pv 0) (pv 2))))))), ?_⟩
    try dsimp only [cxOf, Cx.nox, Cx.wish]
    refine s_ret (d := .bl (isB d lo hi)) e ?_ q
    cases d with
    | int i =>
      refine (e_and (a := true) (by walk_at "ev") fun _ => e_and (a := true) (by walk_at "evq") fun _ => e_chain (by walk_at "ev") (by walk_at "ev") (fun _ => by walk_at "ev") c_le c_le).eq ?_
      rfl
    | bl b =>
      refine (e_and (a := true) (by walk_at "ev") fun _ => e_and (a := false) (b := true) (by walk_at "evq") fun z => nomatch z).eq ?_
      rfl
    | _ => exact (e_and (a := false) (b := true) (by walk_at "ev") fun z => nomatch z)
theorem e_btw {σ : L2.St} {G : Hp} {ta tb tc : TE} {i lo hi : Int} {E : XK} (ha : EvD K ta σ G (.int i)) (hb : EvD K tb σ G (.int lo)) (hc : EvD K tc σ G (.int hi)) (h1 : lo ≤ i) (h2 : i ≤ hi) : EvD K (tCall (sp_is_between K) [] E (tCons ta (tCons tb (tCons tc tNil)))) σ G (.bl true) :=
  (e_call (a_cons ha (a_cons hb (a_one hc))) ⟨_, _, _, rfl, rfl⟩).bl (by show (decide (lo ≤ i) && decide (i ≤ hi)) = true; rw [decide_eq_true h1, decide_eq_true h2]; rfl)

end

/-! ### contests, tries, verdicts as plain data -/
structure Con where
  rule : Str
  teams : Nat
  fin : Nat
  frozen : Nat
  tasks : List (List (Nat × Nat) × Nat)
def gD (g : Nat × Nat) : D := .tup [.int g.1, .int g.2]
def tkD (t : List (Nat × Nat) × Nat) : D := .tup [.tup (t.1.map gD), .int t.2]
def Con.d (c : Con) : D := .tup [.str c.rule, .int c.teams, .int c.fin, .int c.frozen, .tup (c.tasks.map tkD)]
abbrev sFirst : Str := PySem.Str.ofString "first"
abbrev sBest : Str := PySem.Str.ofString "best"
abbrev sGroups : Str := PySem.Str.ofString "groups"
structure Con.Ok (c : Con) : Prop where
  rule : c.rule = sFirst ∨ c.rule = sBest ∨ c.rule = sGroups
  teams : 2 ≤ c.teams ∧ c.teams ≤ 12
  fin : 1 ≤ c.fin ∧ c.fin ≤ 300
  frozen : c.frozen ≤ c.fin
  many : 1 ≤ c.tasks.length ∧ c.tasks.length ≤ 6
  task : ∀ t ∈ c.tasks, t.2 ≤ c.fin ∧ 1 ≤ t.1.length ∧ t.1.length ≤ 4 ∧ ∀ g ∈ t.1, (1 ≤ g.1 ∧ g.1 ≤ 5) ∧ 1 ≤ g.2 ∧ g.2 ≤ 100
def Con.task (c : Con) (k : Nat) : List (Nat × Nat) × Nat := c.tasks.getD k ([], 0)
abbrev Con.groups (c : Con) (k : Nat) : List (Nat × Nat) := (c.task k).1
abbrev Con.due (c : Con) (k : Nat) : Nat := (c.task k).2
def sizeG (gs : List (Nat × Nat)) : Nat := (gs.map (·.1)).sum
abbrev Con.size (c : Con) (k : Nat) : Nat := sizeG (c.groups k)
theorem Con.task_at {c : Con} {k : Nat} (h : k < c.tasks.length) : c.tasks[k]? = some (c.task k) := by
  unfold Con.task
  rw [List.getD_eq_getElem?_getD, List.getElem?_eq_getElem h]
  rfl
theorem Con.task_ok {c : Con} (o : c.Ok) {k : Nat} (h : k < c.tasks.length) : c.due k ≤ c.fin ∧ 1 ≤ (c.groups k).length ∧ (c.groups k).length ≤ 4 ∧ ∀ g ∈ c.groups k, (1 ≤ g.1 ∧ g.1 ≤ 5) ∧ 1 ≤ g.2 ∧ g.2 ≤ 100 :=
  o.task _ (List.mem_of_getElem? (Con.task_at h))
abbrev Try := Nat × Nat × Nat
def trD (t : Try) : D := .tup [.int t.1, .int t.2.1, .int t.2.2]
def trsD (ts : List Try) : D := .lst (ts.map trD)
structure TrOk (c : Con) (t : Try) : Prop where
  team : t.1 < c.teams
  task : t.2.1 < c.tasks.length
  time : t.2.2 ≤ 999
structure TriesOk (c : Con) (ts : List Try) : Prop where
  len : ts.length ≤ 200
  ok : ∀ t ∈ ts, TrOk c t
  rise : ts.Pairwise fun a b => a.2.2 ≤ b.2.2
def tryAt (ts : List Try) (n : Nat) : Try := ts.getD n (0, 0, 0)
theorem try_at {ts : List Try} {n : Nat} (h : n < ts.length) : ts[n]? = some (tryAt ts n) := by
  unfold tryAt
  rw [List.getD_eq_getElem?_getD, List.getElem?_eq_getElem h]
  rfl
theorem TriesOk.at {c : Con} {ts : List Try} (o : TriesOk c ts) {n : Nat} (h : n < ts.length) : TrOk c (tryAt ts n) := o.ok _ (List.mem_of_getElem? (try_at h))
abbrev Ver := Nat × Nat × Bool
def vrD (v : Ver) : D := .tup [.int v.1, .int v.2.1, .bl v.2.2]
def vrsD (vs : List Ver) : D := .lst (vs.map vrD)
abbrev szOf (c : Con) (ts : List Try) (n : Nat) : Nat := c.size (tryAt ts n).2.1
structure VersOk (c : Con) (ts : List Try) (vs : List Ver) : Prop where
  ok : ∀ v ∈ vs, v.1 < ts.length ∧ v.2.1 < szOf c ts v.1
  once : (vs.map fun v => (v.1, v.2.1)).Nodup
theorem size_le {gs : List (Nat × Nat)} (h : ∀ g ∈ gs, (1 ≤ g.1 ∧ g.1 ≤ 5) ∧ 1 ≤ g.2 ∧ g.2 ≤ 100) : sizeG gs ≤ 5 * gs.length := by
  unfold sizeG
  induction gs with
  | nil => exact Nat.le_refl _
  | cons g gs ih =>
    have h1 := h g List.mem_cons_self
    have h2 := ih fun x hx => h x (List.mem_cons_of_mem _ hx)
    rw [List.map_cons, List.sum_cons, List.length_cons]
    omega

section
variable {P : Program} {w : World} {K : PySem.W.Frag} {mg : Str → Option Value} {base : Heap}
abbrev s_trials_of : Stmt := top 22
abbrev N_trials_of : List Str := ["contest", "task", "many", "points"]
abbrev P_trials_of : List Str := ["contest", "task"]
theorem sc_trials_of : FnScope N_trials_of P_trials_of (defScope s_trials_of) := ⟨rfl, rfl, rfl, by decide +kernel, rfl, by decide +kernel, by decide +kernel⟩

def R_trials_of (ds : List D) (r : D) : Prop := ∃ (c : Con) (k : Nat), ds = [c.d, .int k] ∧ c.Ok ∧ k < c.tasks.length ∧ r = .int (c.size k)
abbrev sp_trials_of (K : PySem.W.Frag) : Sp := spP K R_trials_of
theorem sum_nat (l : List Nat) : (l.map fun n : Nat => (n : Int)).sum = ((l.sum : Nat) : Int) := by
  induction l with
  | nil => rfl
  | cons a l ih => rw [List.map_cons, List.sum_cons, List.sum_cons, ih]; omega
theorem ok_trials_of {f : Addr} {fd : FuncData} (F : Fun K "trials_of" "trials_of" s_trials_of f fd) (T : Tx K mg) : FnOk P w K mg base CX0 1 f fd P_trials_of (sp_trials_of K) := by
  refine F.ok sc_trials_of (fun vs H Q E h => ?_) (fun cdv A outer s H vs Q E hr h => ?_)
  · obtain ⟨G, ds, r, e, ra, ⟨c, k, rfl, oc, hk, rfl⟩, q⟩ := h
    exact ra.len
  · obtain ⟨G, ds, r, e, ra, ⟨c, k, rfl, oc, hk, rfl⟩, q⟩ := h
    obtain ⟨v0, v1, rfl, r0, r1⟩ := ra.two
    have hc := Con.task_at hk
    have ok := Con.task_ok oc hk
    refine ⟨_, (pss_one (ps_ret (pe_callB (cr_sumK K rfl rfl) (by rfl) T.n_sum (by decide +kernel) (pa_cons (pe_lc (own := [("many", 2), ("points", 3)]) (g := gTup K 2 (gCons (gName 2) (gCons (gName 3) gNil))) (tt := tYes) rfl sc_trials_of.nd (pi_seqK K rfl (pe_ix (ix_seqK K rfl) (pe_ix (ix_seqK K rfl) (pe_ix (ix_seqK K rfl) (pv 0) pe_int (fun _ _ => rfl)) (pv 1) (fun _ _ => rfl)) pe_int (fun _ _ => rfl))) (blkOk_by (own := [("many", 2), ("points", 3)]) (N := N_trials_of) (sc := defScope s_trials_of) (by decide +kernel)) (fun _ _ _ _ _ => (pg_tup rfl (pgs_cons (pg_name (i := 2) sc_trials_of.nd rfl (by first | exact Or.inl rfl | exact Or.inr rfl)) (pgs_cons (pg_name (i := 3) sc_trials_of.nd rfl (by first | exact Or.inl rfl | exact Or.inr rfl)) pgs_nil)))) (fun _ _ _ _ _ => pts_nil) (fun _ _ _ _ _ => (pv 2))) pa_nil)))), ?_⟩
    try dsimp only [cxOf, Cx.nox, Cx.wish]
    refine s_ret (d := .int (c.size k)) e ?_ q
    refine EvD.eq (e_sum (ns := (c.groups k).map fun g => (g.1 : Int)) (EvF.toD (f_lcm (xs := c.groups k) (Y := nth ((c.groups k).map gD)) (js := [2, 3]) (fun _ g => [.int g.1, .int g.2]) (fun _ => true) (fun g => .int g.1)
      (i_seqT' (List.length_map _) (e_ix (d1 := tkD (c.task k)) (e_ix (d1 := .tup (c.tasks.map tkD)) (i := k) (by walk_at "ev") (by walk_at "ev") (at_mapT hc)) e_int rfl)) (fun i x hx => by rw [nth_map hx]; exact g_two) (by omega) (fun _ _ _ => rfl) (fun us h => match us, h with | [_, _], _ => rfl)
      (fun _ _ _ _ _ _ _ => b_yes) (fun i x hx _ G1 e1 us ru => ?_))) ?_) ?_
    · obtain ⟨a, b, rfl, ra, rb⟩ := ru.two
      exact e_var rfl ra
    · rw [List.filter_eq_self.mpr (fun _ _ => rfl), List.map_map]
      rfl
    · have h := sum_nat ((c.groups k).map (·.1))
      rw [List.map_map] at h
      exact congrArg D.int h

end

section
variable {P : Program} {w : World} {K : PySem.W.Frag} {mg : Str → Option Value} {base : Heap}
abbrev s_is_group : Stmt := top 19
abbrev N_is_group : List Str := ["group"]
abbrev P_is_group : List Str := ["group"]
theorem sc_is_group : FnScope N_is_group P_is_group (defScope s_is_group) := ⟨rfl, rfl, rfl, by decide +kernel, rfl, by decide +kernel, by decide +kernel⟩

def R_is_group (ds : List D) (r : D) : Prop := ∃ g : Nat × Nat, ds = [gD g] ∧ ((1 ≤ g.1 ∧ g.1 ≤ 5) ∧ 1 ≤ g.2 ∧ g.2 ≤ 100) ∧ r = .bl true
abbrev sp_is_group (K : PySem.W.Frag) : Sp := spP K R_is_group
theorem ok_is_group {f : Addr} {fd : FuncData} (F : Fun K "is_group" "is_group" s_is_group f fd) (T : Tx K mg) (d_is_between : Dk P w K mg base 1 "is_between" P_is_between (sp_is_between K)) : FnOk P w K mg base CX0 2 f fd P_is_group (sp_is_group K) := by
  refine F.ok sc_is_group (fun vs H Q E h => ?_) (fun cdv A outer s H vs Q E hr h => ?_)
  · obtain ⟨G, ds, r, e, ra, ⟨g, rfl, hg, rfl⟩, q⟩ := h
    exact ra.len
  · obtain ⟨G, ds, r, e, ra, ⟨g, rfl, hg, rfl⟩, q⟩ := h
    obtain ⟨v0, rfl, r0⟩ := ra.one
    refine ⟨_, (pss_cons (ps_if (PW.pt (pw_or (pt_not (pt_val (pe_callB (call_isiK' K rfl) (by rfl) T.n_isinstance (by decide +kernel) (pa_cons (pv 0) (pa_cons (pe_ty (n := "tuple") (by rfl) T.n_tuple (by decide +kernel)) pa_nil))))) (pw_or1 (pt_cmpR (op_neK K rfl hr.units) (pe_callB (call_lenK K rfl) (by rfl) T.n_len (by decide +kernel) (pa_cons (pv 0) pa_nil)) pe_int (nomark _))))) (pss_one (ps_ret pe_bl)) pss_nil)
    (pss_one (ps_ret (pe_and (pe_fn d_is_between (hr.mono (by decide)) (by rfl) (pa_cons (pe_ix (ix_seqK K rfl) (pv 0) pe_int (fun _ _ => rfl)) (pa_cons pe_int (pa_cons (pe_gI rfl T.c_MOST_TRIALS) pa_nil)))) (pe_one (pe_fn d_is_between (hr.mono (by decide)) (by rfl) (pa_cons (pe_ix (ix_seqK K rfl) (pv 0) pe_int (fun _ _ => rfl)) (pa_cons pe_int (pa_cons (pe_gI rfl T.c_MOST_POINTS) pa_nil))))))))), ?_⟩
    try dsimp only [cxOf, Cx.nox, Cx.wish]
    refine q_no e (b_orF (b_notT (by walk_at "bt")) (by walk_at "bf")) fun G1 H1 s1 => ?_
    have r0 := r0.ex s1.g
    refine s_ret (d := .bl true) s1.i ?_ fun v G2 H2 s2 r2 => q v G2 H2 (s1.trans s2) r2
    exact e_andT (e_btw (i := g.1) (by walk_at "ev") (by walk_at "ev") (by walk_at "ev") (by omega) (by omega)) (e_btw (i := g.2) (by walk_at "ev") (by walk_at "ev") (by walk_at "ev") (by omega) (by omega))

end

section
variable {P : Program} {w : World} {K : PySem.W.Frag} {mg : Str → Option Value} {base : Heap}
abbrev s_need_tasks : Stmt := top 20
abbrev N_need_tasks : List Str := ["tasks", "end", "k", "task", "g", "group"]
abbrev P_need_tasks : List Str := ["tasks", "end"]
theorem sc_need_tasks : FnScope N_need_tasks P_need_tasks (defScope s_need_tasks) := ⟨rfl, rfl, rfl, by decide +kernel, rfl, by decide +kernel, by decide +kernel⟩

def R_need_tasks (ds : List D) (r : D) : Prop := ∃ c : Con, ds = [.tup (c.tasks.map tkD), .int c.fin] ∧ c.Ok ∧ r = .non
abbrev sp_need_tasks (K : PySem.W.Frag) : Sp := spP K R_need_tasks
theorem nth_two {α : Type} {xs : List α} {f : α → D} {j1 j2 : Nat} {i : Nat} {x : α} (h : xs[i]? = some x) : EvG K (gTup K 2 (gCons (gName j1) (gCons (gName j2) gNil))) (.tup [.int i, nth (xs.map f) i]) [j1, j2] [.int i, f x] := by
  rw [nth_map h]
  exact g_two
theorem ok_need_tasks {f : Addr} {fd : FuncData} (F : Fun K "need_tasks" "need_tasks" s_need_tasks f fd) (T : Tx K mg) (d_is_between : Dk P w K mg base 1 "is_between" P_is_between (sp_is_between K)) (d_is_group : Dk P w K mg base 2 "is_group" P_is_group (sp_is_group K)) : FnOk P w K mg base CX0 3 f fd P_need_tasks (sp_need_tasks K) := by
  refine F.ok sc_need_tasks (fun vs H Q E h => ?_) (fun cdv A outer s H vs Q E hr h => ?_)
  · obtain ⟨G, ds, r, e, ra, ⟨c, rfl, oc, rfl⟩, q⟩ := h
    exact ra.len
  · obtain ⟨G, ds, r, e, ra, ⟨c, rfl, oc, rfl⟩, q⟩ := h
    obtain ⟨v0, v1, rfl, r0, r1⟩ := ra.two
    refine ⟨_, (pss_cons (ps_if (PW.pt (pw_or (pt_not (pt_val (pe_callB (call_isiK' K rfl) (by rfl) T.n_isinstance (by decide +kernel) (pa_cons (pv 0) (pa_cons (pe_ty (n := "tuple") (by rfl) T.n_tuple (by decide +kernel)) pa_nil))))) (pw_or1 (pt_not (pt_chain op_le op_le pe_int (pe_callB (call_lenK K rfl) (by rfl) T.n_len (by decide +kernel) (pa_cons (pv 0) pa_nil)) (pe_gI rfl T.c_MOST_TASKS)))))) (pss_one ps_never) pss_nil)
    (pss_one (ps_for PassesOwn.never rfl (pi_enK K rfl (by rfl) T.n_enumerate (pa_cons (pv 0) pa_nil)) (pg_tup rfl (pgs_cons (pg_name (i := 2) sc_need_tasks.nd rfl (by first | exact Or.inl rfl | exact Or.inr rfl)) (pgs_cons (pg_name (i := 3) sc_need_tasks.nd rfl (by first | exact Or.inl rfl | exact Or.inr rfl)) pgs_nil))) (pss_cons (ps_if (PW.pt (pw_or (pt_not (pt_val (pe_callB (call_isiK' K rfl) (by rfl) T.n_isinstance (by decide +kernel) (pa_cons (pv 3) (pa_cons (pe_ty (n := "tuple") (by rfl) T.n_tuple (by decide +kernel)) pa_nil))))) (pw_or (pt_cmpR (op_neK K rfl hr.units) (pe_callB (call_lenK K rfl) (by rfl) T.n_len (by decide +kernel) (pa_cons (pv 3) pa_nil)) pe_int (nomark _)) (pw_or1 (pt_not (pt_val (pe_fn d_is_between (hr.mono (by decide)) (by rfl) (pa_cons (pe_ix (ix_seqK K rfl) (pv 3) pe_int (fun _ _ => rfl)) (pa_cons pe_int (pa_cons (pv 1) pa_nil)))))))))) (pss_one ps_never) pss_nil)
    (pss_cons (ps_if (PW.pt (pw_or (pt_not (pt_val (pe_callB (call_isiK' K rfl) (by rfl) T.n_isinstance (by decide +kernel) (pa_cons (pe_ix (ix_seqK K rfl) (pv 3) pe_int (fun _ _ => rfl)) (pa_cons (pe_ty (n := "tuple") (by rfl) T.n_tuple (by decide +kernel)) pa_nil))))) (pw_or1 (pt_not (pt_chain op_le op_le pe_int (pe_callB (call_lenK K rfl) (by rfl) T.n_len (by decide +kernel) (pa_cons (pe_ix (ix_seqK K rfl) (pv 3) pe_int (fun _ _ => rfl)) pa_nil)) (pe_gI rfl T.c_MOST_GROUPS)))))) (pss_one ps_never) pss_nil)
    (pss_one (ps_for PassesOwn.never rfl (pi_enK K rfl (by rfl) T.n_enumerate (pa_cons (pe_ix (ix_seqK K rfl) (pv 3) pe_int (fun _ _ => rfl)) pa_nil)) (pg_tup rfl (pgs_cons (pg_name (i := 4) sc_need_tasks.nd rfl (by first | exact Or.inl rfl | exact Or.inr rfl)) (pgs_cons (pg_name (i := 5) sc_need_tasks.nd rfl (by first | exact Or.inl rfl | exact Or.inr rfl)) pgs_nil))) (pss_one (ps_if (pt_not (pt_val (pe_fn d_is_group (hr.mono (by decide)) (by rfl) (pa_cons (pv 5) pa_nil)))) (pss_one ps_never) pss_nil))))))))), ?_⟩
    try dsimp only [cxOf, Cx.nox, Cx.wish]
    have hm := oc.many
    refine q_no e (b_orF (b_notT (by walk_at "bt")) (b_notT (b_test (e_chainT (i := 1) (j := c.tasks.length) (k := 6) (by walk_at "ev") (e_len (d := .tup (c.tasks.map tkD)) (by walk_at "ev") (congrArg some (List.length_map _))) (by walk_at "ev") (by omega) (by omega))))) fun G1 H1 s1 => ?_
    have r0 := r0.ex s1.g
    have r1 := r1.ex s1.g
    refine s_for (n := c.tasks.length) (js := [2, 3]) (E := fun i => [.int i, nth (c.tasks.map tkD) i]) s1 (i_enT' (List.length_map _) (by walk_at "ev")) (fun i hi => g_two) (fun i σ' G' H' => ∃ w2 w3 w4 w5, σ' = [some v0, some v1, w2, w3, w4, w5])
      (fun _ _ _ => ⟨none, none, none, none, rfl⟩) ?_ ?_
    · rintro Gw ew i hi σ' G' H' S' ew' ⟨w2, w3, w4, w5, rfl⟩ G2 H2 us s2 ru
      have hk := Con.task_at hi
      obtain ⟨ot1, ot2, ot3, ot4⟩ := Con.task_ok oc hi
      rw [nth_map hk] at ru
      obtain ⟨a, b, rfl, ra, rb⟩ := ru.two
      have e2 : Ex G1 G2 := ew.trans (ew'.trans s2.g)
      have q0 := r0.ex e2
      have q1 := r1.ex e2
      show tSeq _ _ _ [some v0, some v1, some a, some b, w4, w5] _
      refine q_no s2.i (b_orF (b_notT (b_B (e_isi (d := tkD (c.task i)) (by walk_at "ev") rfl rfl))) (b_orF (b_test (EvD.bl (e_ne (e_len (d := tkD (c.task i)) (by walk_at "ev") rfl) e_int rfl) rfl)) (b_notT (b_B (e_btw (i := c.due i) (e_ix (d1 := tkD (c.task i)) (by walk_at "ev") e_int rfl) e_int (by walk_at "ev") (by omega) (by omega)))))) fun G3 H3 s3 => ?_
      have q0 := q0.ex s3.g
      have q1 := q1.ex s3.g
      have rb := rb.ex s3.g
      refine q_no s3.i (b_orF (b_notT (b_B (e_isi (d := .tup ((c.groups i).map gD)) (e_ix (d1 := tkD (c.task i)) (by walk_at "ev") e_int rfl) rfl rfl))) (b_notT (b_test (e_chainT (i := 1) (j := (c.groups i).length) (k := 4) (by walk_at "ev") (e_len (d := .tup ((c.groups i).map gD)) (e_ix (d1 := tkD (c.task i)) (by walk_at "ev") e_int rfl) (congrArg some (List.length_map _))) (by walk_at "ev") (by omega) (by omega))))) fun G4 H4 s4 => ?_
      have rb := rb.ex s4.g
      have S4 := ((S'.trans s2).trans s3).trans s4
      refine s_for (n := (c.groups i).length) (js := [4, 5]) (E := fun j => [.int j, nth ((c.groups i).map gD) j]) S4 (i_enT' (List.length_map _) (e_ix (d1 := tkD (c.task i)) (by walk_at "ev") e_int rfl)) (fun i hi => g_two) (fun j σ' G' H' => ∃ w4 w5, σ' = [some v0, some v1, some a, some b, w4, w5])
        (fun _ _ _ => ⟨w4, w5, rfl⟩) ?_ ?_
      · rintro Gv ev j hj σ2 G5 H5 S5 ev' ⟨w4, w5, rfl⟩ G6 H6 us s6 ru
        have hg : (c.groups i)[j]? = some ((c.groups i)[j]) := List.getElem?_eq_getElem hj
        have og := ot4 _ (List.mem_of_getElem? hg)
        rw [nth_map hg] at ru
        obtain ⟨x, y, rfl, rx, ry⟩ := ru.two
        refine s_if (b := false) s6.i (b_notT (b_B (e_call (a_one (by walk_at "ev")) ⟨_, rfl, og, rfl⟩))) (fun z => nomatch z) fun _ G7 H7 s7 => ?_
        have S7 := (S5.trans s6).trans s7
        exact ⟨G7, S7, ev'.trans (s6.g.trans s7.g), some x, some y, rfl⟩
      · rintro σ2 G5 H5 S5 e5 ⟨w4, w5, rfl⟩
        exact ⟨G5, S5, (((ew'.trans s2.g).trans s3.g).trans s4.g).trans e5, some a, some b, w4, w5, rfl⟩
    · rintro σ' G' H' S' ew ⟨w2, w3, w4, w5, rfl⟩
      exact q .non G' H' S' .non

end

section
variable {P : Program} {w : World} {K : PySem.W.Frag} {mg : Str → Option Value} {base : Heap}
abbrev s_need_contest : Stmt := top 21
abbrev N_need_contest : List Str := ["contest", "rule", "teams", "end", "frozen", "tasks"]
abbrev P_need_contest : List Str := ["contest"]
theorem sc_need_contest : FnScope N_need_contest P_need_contest (defScope s_need_contest) := ⟨rfl, rfl, rfl, by decide +kernel, rfl, by decide +kernel, by decide +kernel⟩

def R_need_contest (ds : List D) (r : D) : Prop := ∃ c : Con, ds = [c.d] ∧ c.Ok ∧ r = .non
abbrev sp_need_contest (K : PySem.W.Frag) : Sp := spP K R_need_contest
theorem ok_need_contest {f : Addr} {fd : FuncData} (F : Fun K "need_contest" "need_contest" s_need_contest f fd) (T : Tx K mg) (d_is_between : Dk P w K mg base 1 "is_between" P_is_between (sp_is_between K)) (d_need_tasks : Dk P w K mg base 3 "need_tasks" P_need_tasks (sp_need_tasks K)) : FnOk P w K mg base CX0 4 f fd P_need_contest (sp_need_contest K) := by
  refine F.ok sc_need_contest (fun vs H Q E h => ?_) (fun cdv A outer s H vs Q E hr h => ?_)
  · obtain ⟨G, ds, r, e, ra, ⟨c, rfl, oc, rfl⟩, q⟩ := h
    exact ra.len
  · obtain ⟨G, ds, r, e, ra, ⟨c, rfl, oc, rfl⟩, q⟩ := h
    obtain ⟨v0, rfl, r0⟩ := ra.one
    obtain ⟨aR, m_RULES, sR⟩ := T.c_RULES
    refine ⟨_, (pss_cons (ps_if (PW.pt (pw_or (pt_not (pt_val (pe_callB (call_isiK' K rfl) (by rfl) T.n_isinstance (by decide +kernel) (pa_cons (pv 0) (pa_cons (pe_ty (n := "tuple") (by rfl) T.n_tuple (by decide +kernel)) pa_nil))))) (pw_or1 (pt_cmpR (op_neK K rfl hr.units) (pe_callB (call_lenK K rfl) (by rfl) T.n_len (by decide +kernel) (pa_cons (pv 0) pa_nil)) pe_int (nomark _))))) (pss_one ps_never) pss_nil)
    (pss_cons (ps_asg (pv 0) (pg_tup rfl (pgs_cons (pg_name (i := 1) sc_need_contest.nd rfl (by first | exact Or.inl rfl | exact Or.inr rfl)) (pgs_cons (pg_name (i := 2) sc_need_contest.nd rfl (by first | exact Or.inl rfl | exact Or.inr rfl)) (pgs_cons (pg_name (i := 3) sc_need_contest.nd rfl (by first | exact Or.inl rfl | exact Or.inr rfl)) (pgs_cons (pg_name (i := 4) sc_need_contest.nd rfl (by first | exact Or.inl rfl | exact Or.inr rfl)) (pgs_cons (pg_name (i := 5) sc_need_contest.nd rfl (by first | exact Or.inl rfl | exact Or.inr rfl)) pgs_nil)))))))
    (pss_cons (ps_if (PW.pt (pw_or (pt_not (pt_val (pe_callB (call_isiK' K rfl) (by rfl) T.n_isinstance (by decide +kernel) (pa_cons (pv 1) (pa_cons (pe_ty (n := "str") (by rfl) T.n_str (by decide +kernel)) pa_nil))))) (pw_or1 (pt_cmpR (op_ninK K rfl) (pv 1) (pe_gR rfl m_RULES) (by rfl))))) (pss_one ps_never) pss_nil)
    (pss_cons (ps_if (pt_not (pt_val (pe_fn d_is_between (hr.mono (by decide)) (by rfl) (pa_cons (pv 2) (pa_cons pe_int (pa_cons (pe_gI rfl T.c_MOST_TEAMS) pa_nil)))))) (pss_one ps_never) pss_nil)
    (pss_cons (ps_if (pt_not (pt_val (pe_fn d_is_between (hr.mono (by decide)) (by rfl) (pa_cons (pv 3) (pa_cons pe_int (pa_cons (pe_gI rfl T.c_MOST_END) pa_nil)))))) (pss_one ps_never) pss_nil)
    (pss_cons (ps_if (pt_not (pt_val (pe_fn d_is_between (hr.mono (by decide)) (by rfl) (pa_cons (pv 4) (pa_cons pe_int (pa_cons (pv 3) pa_nil)))))) (pss_one ps_never) pss_nil)
    (pss_one (ps_expr (pe_fn d_need_tasks (hr.mono (by decide)) (by rfl) (pa_cons (pv 5) (pa_cons (pv 3) pa_nil))))))))))), ?_⟩
    try dsimp only [cxOf, Cx.nox, Cx.wish]
    refine q_no e (b_orF (b_notT (b_B (e_isi (d := c.d) (by walk_at "ev") rfl rfl))) (b_test (EvD.bl (e_ne (e_len (d := c.d) (by walk_at "ev") rfl) e_int rfl) rfl))) fun G1 H1 s1 => ?_
    have r0 := r0.ex s1.g
    refine q_asgT s1.i (d := c.d) (js := [1, 2, 3, 4, 5]) (es := [.str c.rule, .int c.teams, .int c.fin, .int c.frozen, .tup (c.tasks.map tkD)]) (by walk_at "ev")
      (g_tup (g_cons g_name (g_cons g_name (g_cons g_name (g_cons g_name (g_cons g_name g_nil rfl) rfl) rfl) rfl) rfl) rfl) fun us G2 H2 s2 ru => ?_
    obtain ⟨a1, a2, a3, a4, a5, rfl, p1, p2, p3, p4, p5⟩ := ru.five
    have r0 := r0.ex s2.g
    show tSeq _ _ _ [some v0, some a1, some a2, some a3, some a4, some a5] _
    have S2 := s1.trans s2
    refine q_no s2.i (b_orF (b_notT (by walk_at "bt")) (b_test (EvD.bl (e_ninK (by walk_at "ev") rfl sR rfl) ?_))) fun G3 H3 s3 => ?_
    · have h := oc.rule
      revert h
      generalize c.rule = ru
      rintro (h | h | h) <;> (subst h; decide +kernel)
    have p2 := p2.ex s3.g
    have p3 := p3.ex s3.g
    have p4 := p4.ex s3.g
    have p5 := p5.ex s3.g
    have ot := oc.teams
    have of' := oc.fin
    have ofr := oc.frozen
    have S3 := S2.trans s3
    refine q_no s3.i (b_notT (b_B (e_btw (i := c.teams) (by walk_at "ev") (by walk_at "ev") (by walk_at "ev") (by omega) (by omega)))) fun G4 H4 s4 => ?_
    have p3 := p3.ex s4.g
    have p4 := p4.ex s4.g
    have p5 := p5.ex s4.g
    have S4 := S3.trans s4
    refine q_no s4.i (b_notT (b_B (e_btw (i := c.fin) (by walk_at "ev") (by walk_at "ev") (by walk_at "ev") (by omega) (by omega)))) fun G5 H5 s5 => ?_
    have p3 := p3.ex s5.g
    have p4 := p4.ex s5.g
    have p5 := p5.ex s5.g
    have S5 := S4.trans s5
    refine q_no s5.i (b_notT (b_B (e_btw (i := c.frozen) (by walk_at "ev") (by walk_at "ev") (by walk_at "ev") (by omega) (by omega)))) fun G6 H6 s6 => ?_
    have p3 := p3.ex s6.g
    have p5 := p5.ex s6.g
    have S6 := S5.trans s6
    refine s_drop s6.i (d := .non) (e_call (a_cons (by walk_at "ev") (a_one (by walk_at "ev"))) ⟨c, rfl, oc, rfl⟩) fun G7 H7 s7 => ?_
    exact q .non G7 H7 (S6.trans s7) .non

end

section
variable {P : Program} {w : World} {K : PySem.W.Frag} {mg : Str → Option Value} {base : Heap}
abbrev s_is_try : Stmt := top 23
abbrev N_is_try : List Str := ["one", "contest"]
abbrev P_is_try : List Str := ["one", "contest"]
theorem sc_is_try : FnScope N_is_try P_is_try (defScope s_is_try) := ⟨rfl, rfl, rfl, by decide +kernel, rfl, by decide +kernel, by decide +kernel⟩

def R_is_try (ds : List D) (r : D) : Prop := ∃ (c : Con) (t : Try), ds = [trD t, c.d] ∧ c.Ok ∧ TrOk c t ∧ r = .bl true
abbrev sp_is_try (K : PySem.W.Frag) : Sp := spP K R_is_try
theorem ok_is_try {f : Addr} {fd : FuncData} (F : Fun K "is_try" "is_try" s_is_try f fd) (T : Tx K mg) (d_is_between : Dk P w K mg base 1 "is_between" P_is_between (sp_is_between K)) : FnOk P w K mg base CX0 2 f fd P_is_try (sp_is_try K) := by
  refine F.ok sc_is_try (fun vs H Q E h => ?_) (fun cdv A outer s H vs Q E hr h => ?_)
  · obtain ⟨G, ds, r, e, ra, ⟨c, t, rfl, oc, ot, rfl⟩, q⟩ := h
    exact ra.len
  · obtain ⟨G, ds, r, e, ra, ⟨c, t, rfl, oc, ot, rfl⟩, q⟩ := h
    obtain ⟨v0, v1, rfl, r0, r1⟩ := ra.two
    refine ⟨_, (pss_cons (ps_if (PW.pt (pw_or (pt_not (pt_val (pe_callB (call_isiK' K rfl) (by rfl) T.n_isinstance (by decide +kernel) (pa_cons (pv 0) (pa_cons (pe_ty (n := "tuple") (by rfl) T.n_tuple (by decide +kernel)) pa_nil))))) (pw_or (pt_cmpR (op_neK K rfl hr.units) (pe_callB (call_lenK K rfl) (by rfl) T.n_len (by decide +kernel) (pa_cons (pv 0) pa_nil)) pe_int (nomark _)) (pw_or1 (pt_not (pt_val (pe_fn d_is_between (hr.mono (by decide)) (by rfl) (pa_cons (pe_ix (ix_seqK K rfl) (pv 0) pe_int (fun _ _ => rfl)) (pa_cons pe_int (pa_cons (pe_op op_sub (pe_ix (ix_seqK K rfl) (pv 1) pe_int (fun _ _ => rfl)) pe_int) pa_nil)))))))))) (pss_one (ps_ret pe_bl)) pss_nil)
    (pss_one (ps_ret (pe_and (pe_fn d_is_between (hr.mono (by decide)) (by rfl) (pa_cons (pe_ix (ix_seqK K rfl) (pv 0) pe_int (fun _ _ => rfl)) (pa_cons pe_int (pa_cons (pe_op op_sub (pe_callB (call_lenK K rfl) (by rfl) T.n_len (by decide +kernel) (pa_cons (pe_ix (ix_seqK K rfl) (pv 1) pe_int (fun _ _ => rfl)) pa_nil)) pe_int) pa_nil)))) (pe_one (pe_fn d_is_between (hr.mono (by decide)) (by rfl) (pa_cons (pe_ix (ix_seqK K rfl) (pv 0) pe_int (fun _ _ => rfl)) (pa_cons pe_int (pa_cons (pe_gI rfl T.c_MOST_TIME) pa_nil))))))))), ?_⟩
    try dsimp only [cxOf, Cx.nox, Cx.wish]
    have h1 := oc.teams
    have h2 := oc.many
    have h3 := ot.team
    have h4 := ot.task
    have h5 := ot.time
    refine q_no e (b_orF (b_notT (b_B (e_isi (d := trD t) (by walk_at "ev") rfl rfl))) (b_orF (b_test (EvD.bl (e_ne (e_len (d := trD t) (by walk_at "ev") rfl) e_int rfl) rfl)) (b_notT (b_B (e_btw (i := t.1) (e_ix (d1 := trD t) (by walk_at "ev") e_int rfl) e_int (e_sub (i := c.teams) (e_ix (d1 := c.d) (by walk_at "ev") e_int rfl) e_int) (by omega) (by omega)))))) fun G1 H1 s1 => ?_
    have r0 := r0.ex s1.g
    have r1 := r1.ex s1.g
    refine s_ret (d := .bl true) s1.i ?_ fun v G2 H2 s2 r2 => q v G2 H2 (s1.trans s2) r2
    exact e_andT (e_btw (i := t.2.1) (e_ix (d1 := trD t) (by walk_at "ev") e_int rfl) e_int (e_sub (i := c.tasks.length) (e_len (d := .tup (c.tasks.map tkD)) (e_ix (d1 := c.d) (by walk_at "ev") e_int rfl) (congrArg some (List.length_map _))) e_int) (by omega) (by omega))
      (e_btw (i := t.2.2) (e_ix (d1 := trD t) (by walk_at "ev") e_int rfl) e_int (by walk_at "ev") (by omega) (by omega))

end

section
variable {P : Program} {w : World} {K : PySem.W.Frag} {mg : Str → Option Value} {base : Heap}
abbrev s_need_tries : Stmt := top 24
abbrev N_need_tries : List Str := ["contest", "tries", "at", "one"]
abbrev P_need_tries : List Str := ["contest", "tries"]
theorem sc_need_tries : FnScope N_need_tries P_need_tries (defScope s_need_tries) := ⟨rfl, rfl, rfl, by decide +kernel, rfl, by decide +kernel, by decide +kernel⟩

def R_need_tries (ds : List D) (r : D) : Prop := ∃ (c : Con) (ts : List Try), ds = [c.d, trsD ts] ∧ c.Ok ∧ TriesOk c ts ∧ r = .non
abbrev sp_need_tries (K : PySem.W.Frag) : Sp := spP K R_need_tries
theorem ok_need_tries {f : Addr} {fd : FuncData} (F : Fun K "need_tries" "need_tries" s_need_tries f fd) (T : Tx K mg) (d_is_try : Dk P w K mg base 2 "is_try" P_is_try (sp_is_try K)) : FnOk P w K mg base CX0 3 f fd P_need_tries (sp_need_tries K) := by
  refine F.ok sc_need_tries (fun vs H Q E h => ?_) (fun cdv A outer s H vs Q E hr h => ?_)
  · obtain ⟨G, ds, r, e, ra, ⟨c, ts, rfl, oc, ot, rfl⟩, q⟩ := h
    exact ra.len
  · obtain ⟨G, ds, r, e, ra, ⟨c, ts, rfl, oc, ot, rfl⟩, q⟩ := h
    obtain ⟨v0, v1, rfl, r0, r1⟩ := ra.two
    refine ⟨_, (pss_one (ps_for PassesOwn.never rfl (pi_enK K rfl (by rfl) T.n_enumerate (pa_cons (pv 1) pa_nil)) (pg_tup rfl (pgs_cons (pg_name (i := 2) sc_need_tries.nd rfl (by first | exact Or.inl rfl | exact Or.inr rfl)) (pgs_cons (pg_name (i := 3) sc_need_tries.nd rfl (by first | exact Or.inl rfl | exact Or.inr rfl)) pgs_nil))) (pss_one (ps_if (PW.pt (pw_or (pt_cmpR op_ge (pv 2) (pe_gI rfl T.c_MOST_TRIES) (nomark _)) (pw_or (pt_not (pt_val (pe_fn d_is_try (hr.mono (by decide)) (by rfl) (pa_cons (pv 3) (pa_cons (pv 0) pa_nil))))) (pw_or1 (PW.pt (pw_and (pt_cmpR op_gt (pv 2) pe_int (nomark _)) (pw_and1 (pt_cmpR op_lt (pe_ix (ix_seqK K rfl) (pv 3) pe_int (fun _ _ => rfl)) (pe_ix (ix_seqK K rfl) (pe_ix (ix_seqK K rfl) (pv 1) (pe_op op_sub (pv 2) pe_int) (fun _ _ => rfl)) pe_int (fun _ _ => rfl)) (nomark _))))))))) (pss_one ps_never) pss_nil)))), ?_⟩
    try dsimp only [cxOf, Cx.nox, Cx.wish]
    refine s_for (n := ts.length) (js := [2, 3]) (E := fun i => [.int i, nth (ts.map trD) i]) (Step.refl e) (i_enL' (List.length_map _) (by walk_at "ev")) (fun i hi => g_two) (fun i σ' G' H' => ∃ w2 w3, σ' = [some v0, some v1, w2, w3])
      (fun _ _ _ => ⟨none, none, rfl⟩) ?_ ?_
    · rintro Gw ew i hi σ' G' H' S' ew' ⟨w2, w3, rfl⟩ G2 H2 us s2 ru
      have hk := try_at hi
      have ok := ot.at hi
      rw [nth_map hk] at ru
      obtain ⟨a, b, rfl, ra, rb⟩ := ru.two
      have e2 : Ex G G2 := ew.trans (ew'.trans s2.g)
      have q0 := r0.ex e2
      have q1 := r1.ex e2
      have hlen := ot.len
      refine s_if (b := false) s2.i (b_orF (b_test (EvD.bl (e_ge (i := i) (j := 200) (by walk_at "ev") (by walk_at "ev")) (decide_eq_false (by omega)))) (b_orF (b_notT (b_B (e_call (a_cons (by walk_at "ev") (a_one (by walk_at "ev"))) ⟨c, _, rfl, oc, ok, rfl⟩))) ?_)) (fun z => nomatch z) fun _ G3 H3 s3 => ?_
      · by_cases h0 : i = 0
        · exact b_andF (b_test (EvD.bl (e_gt (i := i) (j := 0) (by walk_at "ev") e_int) (decide_eq_false (by omega))))
        · have hi1 : i - 1 < ts.length := by omega
          have hr' : (tryAt ts (i - 1)).2.2 ≤ (tryAt ts i).2.2 := by
            have h := List.pairwise_iff_getElem.mp ot.rise (i - 1) i hi1 hi (by omega)
            have e1 : ts[i - 1] = tryAt ts (i - 1) := Option.some.inj ((List.getElem?_eq_getElem hi1).symm.trans (try_at hi1))
            have e2 : ts[i] = tryAt ts i := Option.some.inj ((List.getElem?_eq_getElem hi).symm.trans (try_at hi))
            rw [e1, e2] at h
            exact h
          refine (b_and (a := true) (b := false) (b_test (EvD.bl (e_gt (i := i) (j := 0) (by walk_at "ev") e_int) (decide_eq_true (by omega)))) fun _ => ?_).eq rfl
          have ei : ((i : Int) - 1) = ((i - 1 : Nat) : Int) := by omega
          refine b_test (EvD.bl (e_lt (i := (tryAt ts i).2.2) (j := (tryAt ts (i - 1)).2.2) (e_ix (d1 := trD (tryAt ts i)) (by walk_at "ev") e_int rfl)
            (e_ix (d1 := trD (tryAt ts (i - 1))) (e_ix (d1 := trsD ts) (i := ((i - 1 : Nat) : Int)) (by walk_at "ev") (EvD.int (e_sub (by walk_at "ev") e_int) ei) (at_mapL (try_at hi1))) e_int rfl)) (decide_eq_false (by omega)))
      · exact ⟨G3, (S'.trans s2).trans s3, ew'.trans (s2.g.trans s3.g), some a, some b, rfl⟩
    · rintro σ' G' H' S' ew ⟨w2, w3, rfl⟩
      exact q .non G' H' S' .non

end

section
variable {P : Program} {w : World} {K : PySem.W.Frag} {mg : Str → Option Value} {base : Heap}
abbrev s_is_verdict : Stmt := top 25
abbrev N_is_verdict : List Str := ["verdict", "contest", "tries"]
abbrev P_is_verdict : List Str := ["verdict", "contest", "tries"]
theorem sc_is_verdict : FnScope N_is_verdict P_is_verdict (defScope s_is_verdict) := ⟨rfl, rfl, rfl, by decide +kernel, rfl, by decide +kernel, by decide +kernel⟩

def R_is_verdict (ds : List D) (r : D) : Prop := ∃ (c : Con) (ts : List Try) (v : Ver), ds = [vrD v, c.d, trsD ts] ∧ c.Ok ∧ TriesOk c ts ∧ v.1 < ts.length ∧ v.2.1 < szOf c ts v.1 ∧ r = .bl true
abbrev sp_is_verdict (K : PySem.W.Frag) : Sp := spP K R_is_verdict
theorem ok_is_verdict {f : Addr} {fd : FuncData} (F : Fun K "is_verdict" "is_verdict" s_is_verdict f fd) (T : Tx K mg) (d_is_between : Dk P w K mg base 1 "is_between" P_is_between (sp_is_between K)) (d_trials_of : Dk P w K mg base 1 "trials_of" P_trials_of (sp_trials_of K)) : FnOk P w K mg base CX0 2 f fd P_is_verdict (sp_is_verdict K) := by
  refine F.ok sc_is_verdict (fun vs H Q E h => ?_) (fun cdv A outer s H vs Q E hr h => ?_)
  · obtain ⟨G, ds, r, e, ra, ⟨c, ts, v, rfl, oc, ot, h1, h2, rfl⟩, q⟩ := h
    exact ra.len
  · obtain ⟨G, ds, r, e, ra, ⟨c, ts, v, rfl, oc, ot, h1, h2, rfl⟩, q⟩ := h
    obtain ⟨v0, v1, v2, rfl, r0, r1, r2⟩ := ra.three
    refine ⟨_, (pss_cons (ps_if (PW.pt (pw_or (pt_not (pt_val (pe_callB (call_isiK' K rfl) (by rfl) T.n_isinstance (by decide +kernel) (pa_cons (pv 0) (pa_cons (pe_ty (n := "tuple") (by rfl) T.n_tuple (by decide +kernel)) pa_nil))))) (pw_or (pt_cmpR (op_neK K rfl hr.units) (pe_callB (call_lenK K rfl) (by rfl) T.n_len (by decide +kernel) (pa_cons (pv 0) pa_nil)) pe_int (nomark _)) (pw_or1 (pt_not (pt_val (pe_fn d_is_between (hr.mono (by decide)) (by rfl) (pa_cons (pe_ix (ix_seqK K rfl) (pv 0) pe_int (fun _ _ => rfl)) (pa_cons pe_int (pa_cons (pe_op op_sub (pe_callB (call_lenK K rfl) (by rfl) T.n_len (by decide +kernel) (pa_cons (pv 2) pa_nil)) pe_int) pa_nil)))))))))) (pss_one (ps_ret pe_bl)) pss_nil)
    (pss_one (ps_ret (pe_and (pe_fn d_is_between (hr.mono (by decide)) (by rfl) (pa_cons (pe_ix (ix_seqK K rfl) (pv 0) pe_int (fun _ _ => rfl)) (pa_cons pe_int (pa_cons (pe_op op_sub (pe_fn d_trials_of (hr.mono (by decide)) (by rfl) (pa_cons (pv 1) (pa_cons (pe_ix (ix_seqK K rfl) (pe_ix (ix_seqK K rfl) (pv 2) (pe_ix (ix_seqK K rfl) (pv 0) pe_int (fun _ _ => rfl)) (fun _ _ => rfl)) pe_int (fun _ _ => rfl)) pa_nil))) pe_int) pa_nil)))) (pe_one (pe_callB (call_isiK' K rfl) (by rfl) T.n_isinstance (by decide +kernel) (pa_cons (pe_ix (ix_seqK K rfl) (pv 0) pe_int (fun _ _ => rfl)) (pa_cons (pe_ty (n := "bool") (by rfl) T.n_bool (by decide +kernel)) pa_nil)))))))), ?_⟩
    try dsimp only [cxOf, Cx.nox, Cx.wish]
    have hk := try_at h1
    have ok := (ot.at h1).task
    refine q_no e (b_orF (b_notT (b_B (e_isi (d := vrD v) (by walk_at "ev") rfl rfl))) (b_orF (b_test (EvD.bl (e_ne (e_len (d := vrD v) (by walk_at "ev") rfl) e_int rfl) rfl)) (b_notT (b_B (e_btw (i := v.1) (e_ix (d1 := vrD v) (by walk_at "ev") e_int rfl) e_int (e_sub (i := ts.length) (e_len (d := trsD ts) (by walk_at "ev") (congrArg some (List.length_map _))) e_int) (by omega) (by omega)))))) fun G1 H1 s1 => ?_
    have r0 := r0.ex s1.g
    have r1 := r1.ex s1.g
    have r2 := r2.ex s1.g
    refine s_ret (d := .bl true) s1.i ?_ fun v G2 H2 s2 r2 => q v G2 H2 (s1.trans s2) r2
    exact e_andT (e_btw (i := v.2.1) (e_ix (d1 := vrD v) (by walk_at "ev") e_int rfl) e_int (e_sub (i := szOf c ts v.1) (e_call (a_cons (by walk_at "ev") (a_one
        (e_ix (d1 := trD (tryAt ts v.1)) (e_ix (d1 := trsD ts) (by walk_at "ev") (e_ix (d1 := vrD v) (by walk_at "ev") e_int rfl) (at_mapL hk)) e_int rfl))) ⟨c, _, rfl, oc, ok, rfl⟩) e_int) (by omega) (by omega))
      (e_isi (d := .bl v.2.2) (e_ix (d1 := vrD v) (by walk_at "ev") e_int rfl) rfl rfl)

end

section
variable {P : Program} {w : World} {K : PySem.W.Frag} {mg : Str → Option Value} {base : Heap}
abbrev s_need_verdicts : Stmt := top 26
abbrev N_need_verdicts : List Str := ["contest", "tries", "verdicts", "met", "at", "verdict"]
abbrev P_need_verdicts : List Str := ["contest", "tries", "verdicts"]
theorem sc_need_verdicts : FnScope N_need_verdicts P_need_verdicts (defScope s_need_verdicts) := ⟨rfl, rfl, rfl, by decide +kernel, rfl, by decide +kernel, by decide +kernel⟩

def R_need_verdicts (ds : List D) (r : D) : Prop := ∃ (c : Con) (ts : List Try) (vs : List Ver), ds = [c.d, trsD ts, vrsD vs] ∧ c.Ok ∧ TriesOk c ts ∧ VersOk c ts vs ∧ vs.length ≤ 100000 ∧ r = .non
abbrev sp_need_verdicts (K : PySem.W.Frag) : Sp := spP K R_need_verdicts
def verK (v : Ver) : List Key := [.inl v.1, .inl v.2.1]
theorem verK_inj {a b : Ver} (h : verK a = verK b) : (a.1, a.2.1) = (b.1, b.2.1) := by
  unfold verK at h
  injection h with h1 h2
  injection h2 with h2 _
  injection h1 with h1
  injection h2 with h2
  exact Prod.ext (Int.ofNat.inj h1) (Int.ofNat.inj h2)
/-- the dict of those met so far -/
def metK (vs : List Ver) : List (List Key × V) := vs.map fun v => (verK v, .bl true)
theorem valV_map_none {α : Type} {f : α → List Key} {g : α → V} {k : List Key} : ∀ {xs : List α}, (∀ x ∈ xs, f x ≠ k) → valV (xs.map fun x => (f x, g x)) k = none
  | [], _ => rfl
  | x :: xs, h => by
    rw [List.map_cons, valV_neg (h x List.mem_cons_self)]
    exact valV_map_none fun y hy => h y (List.mem_cons_of_mem _ hy)
theorem e_key {σ : L2.St} {G : Hp} {te : TE} {v : Ver} (h : EvD K te σ G (vrD v)) : EvD K (tSl (rSlA K) te tNoPart (tPart (tC (.int 2)))) σ G (.tup ((verK v).map kD)) :=
  e_slT h p_none (p_some (e_int (K := K))) (fun z => by have h : (2 : Nat) = 3 := z.2; omega) rfl
theorem ok_need_verdicts {f : Addr} {fd : FuncData} (F : Fun K "need_verdicts" "need_verdicts" s_need_verdicts f fd) (T : Tx K mg) (d_is_verdict : Dk P w K mg base 2 "is_verdict" P_is_verdict (sp_is_verdict K)) : FnOk P w K mg base CX0 3 f fd P_need_verdicts (sp_need_verdicts K) := by
  refine F.ok sc_need_verdicts (fun vs H Q E h => ?_) (fun cdv A outer s H vs Q E hr h => ?_)
  · obtain ⟨G, ds, r, e, ra, ⟨c, ts, vs, rfl, oc, ot, ov, hlen, rfl⟩, q⟩ := h
    exact ra.len
  · obtain ⟨G, ds, r, e, ra, ⟨c, ts, vs, rfl, oc, ot, ov, hlen, rfl⟩, q⟩ := h
    obtain ⟨v0, v1, v2, rfl, r0, r1, r2⟩ := ra.three
    refine ⟨_, (pss_cons (ps_set (i := 3) sc_need_verdicts.nd rfl (by first | exact Or.inl rfl | exact Or.inr rfl) pe_dnewT)
    (pss_one (ps_for PassesOwn.never rfl (pi_enK K rfl (by rfl) T.n_enumerate (pa_cons (pv 2) pa_nil)) (pg_tup rfl (pgs_cons (pg_name (i := 4) sc_need_verdicts.nd rfl (by first | exact Or.inl rfl | exact Or.inr rfl)) (pgs_cons (pg_name (i := 5) sc_need_verdicts.nd rfl (by first | exact Or.inl rfl | exact Or.inr rfl)) pgs_nil))) (pss_cons (ps_if (PW.pt (pw_or (pt_not (pt_val (pe_fn d_is_verdict (hr.mono (by decide)) (by rfl) (pa_cons (pv 5) (pa_cons (pv 0) (pa_cons (pv 1) pa_nil)))))) (pw_or1 (pt_cmp (pc_din (hu_of hr) (pe_slice (sl_seqK K rfl) (pv 5) po_none (po_some pe_int)) (pv 3)))))) (pss_one ps_never) pss_nil)
    (pss_one (ps_dput (hu_of hr) (pv 3) (pe_slice (sl_seqK K rfl) (pv 5) po_none (po_some pe_int)) pe_bl rfl)))))), ?_⟩
    try dsimp only [cxOf, Cx.nox, Cx.wish]
    refine q_newT e fun p H1 hp gp s1 hx => ?_
    refine s_for (n := vs.length) (js := [4, 5]) (E := fun i => [.int i, nth (vs.map vrD) i]) s1 (i_enL' (List.length_map _) (by walk_at "ev")) (fun i hi => g_two)
      (fun i σ' G' H' => G' p = none ∧ H' p = some (.dT (metK (vs.take i))) ∧ ∃ w4 w5, σ' = [some v0, some v1, some v2, some (.ref p), w4, w5])
      (fun G1 H1' s => ⟨(s.keep gp hx).1, (s.keep gp hx).2, none, none, rfl⟩) ?_ ?_
    · rintro Gw ew i hi σ' G' H' S' ew' ⟨g', h', w4, w5, rfl⟩ G2 H2 us s2 ru
      have hk : vs[i]? = some vs[i] := List.getElem?_eq_getElem hi
      have ok := ov.ok _ (List.mem_of_getElem? hk)
      rw [nth_map hk] at ru
      obtain ⟨a, b, rfl, ra, rb⟩ := ru.two
      have e2 : Ex G G2 := ew.trans (ew'.trans s2.g)
      obtain ⟨g2, x2⟩ := s2.keep g' h'
      have hnew : valV (metK (vs.take i)) (verK vs[i]) = none := by
        refine valV_map_none fun x hx hxe => ?_
        obtain ⟨j, hj⟩ := List.getElem?_of_mem hx
        have hji : j < i := by
          have := (List.getElem?_eq_some_iff.mp hj).1
          rw [List.length_take] at this
          omega
        rw [List.getElem?_take, if_pos hji] at hj
        have hnd := ov.once
        have h1 : (vs.map fun v => (v.1, v.2.1))[j]? = some (x.1, x.2.1) := by rw [List.getElem?_map, hj]; rfl
        have h2 : (vs.map fun v => (v.1, v.2.1))[i]? = some (x.1, x.2.1) := by rw [List.getElem?_map, hk, verK_inj hxe]; rfl
        have := nd_ix hnd h1 h2
        omega
      have q0 := rp_own (o := .dT (metK (vs.take i))) g2 (r0.ex e2)
      have q1 := rp_own (o := .dT (metK (vs.take i))) g2 (r1.ex e2)
      have qb := rp_own (o := .dT (metK (vs.take i))) g2 rb
      have qm : Rp K (upd G2 p (.dT (metK (vs.take i)))) (.ref p) (.tab (metK (vs.take i))) := .tab upd_same
      refine q_ifO (b := false) s2.i g2 x2 (b_orF (b_notT (b_B (e_call (a_cons (by walk_at "ev") (a_cons (by walk_at "ev") (a_one (by walk_at "ev")))) ⟨c, ts, _, rfl, oc, ot, ok.1, ok.2, rfl⟩))) (b_B (EvD.bl (e_din (e_key (by walk_at "ev")) (by walk_at "ev") rfl) (by rw [hnew]; rfl)))) (fun z => nomatch z) fun _ G3 H3 s3 g3 x3 => ?_
      have rb3 := rb.ex s3.g
      refine s_dputT s3.i g3 x3 rfl e_bl rfl (e_key (by walk_at "ev")) rfl (by unfold metK; rw [List.length_map, List.length_take]; omega) fun G4 H4 s4 g4 => ?_
      have S4 := ((S'.trans s2).trans s3).trans s4
      refine ⟨G4, S4.mut hp g4, ew'.trans (s2.g.trans (s3.g.trans s4.g)), g4, ?_, some a, some b, rfl⟩
      rw [upd_same, List.take_add_one, hk]
      rw [putK_new _ hnew]
      unfold metK
      rw [List.map_append]
      rfl
    · rintro σ' G' H' S' ew ⟨_, _, w4, w5, rfl⟩
      exact q .non G' H' S' .non

end

section
variable {P : Program} {w : World} {K : PySem.W.Frag} {mg : Str → Option Value} {base : Heap}
abbrev s_need_all : Stmt := top 27
abbrev N_need_all : List Str := ["contest", "tries", "verdicts"]
abbrev P_need_all : List Str := ["contest", "tries", "verdicts"]
theorem sc_need_all : FnScope N_need_all P_need_all (defScope s_need_all) := ⟨rfl, rfl, rfl, by decide +kernel, rfl, by decide +kernel, by decide +kernel⟩

def R_need_all (ds : List D) (r : D) : Prop := ∃ (c : Con) (ts : List Try) (vs : List Ver), ds = [c.d, trsD ts, vrsD vs] ∧ c.Ok ∧ TriesOk c ts ∧ VersOk c ts vs ∧ vs.length ≤ 100000 ∧ r = .non
abbrev sp_need_all (K : PySem.W.Frag) : Sp := spP K R_need_all
theorem ok_need_all {f : Addr} {fd : FuncData} (F : Fun K "need_all" "need_all" s_need_all f fd) (T : Tx K mg) (d_need_contest : Dk P w K mg base 4 "need_contest" P_need_contest (sp_need_contest K)) (d_need_tries : Dk P w K mg base 3 "need_tries" P_need_tries (sp_need_tries K)) (d_need_verdicts : Dk P w K mg base 3 "need_verdicts" P_need_verdicts (sp_need_verdicts K)) : FnOk P w K mg base CX0 5 f fd P_need_all (sp_need_all K) := by
  refine F.ok sc_need_all (fun vs H Q E h => ?_) (fun cdv A outer s H vs Q E hr h => ?_)
  · obtain ⟨G, ds, r, e, ra, ⟨c, ts, vs, rfl, oc, ot, ov, hlen, rfl⟩, q⟩ := h
    exact ra.len
  · obtain ⟨G, ds, r, e, ra, ⟨c, ts, vs, rfl, oc, ot, ov, hlen, rfl⟩, q⟩ := h
    obtain ⟨v0, v1, v2, rfl, r0, r1, r2⟩ := ra.three
    refine ⟨_, (pss_cons (ps_expr (pe_fn d_need_contest (hr.mono (by decide)) (by rfl) (pa_cons (pv 0) pa_nil)))
    (pss_cons (ps_expr (pe_fn d_need_tries (hr.mono (by decide)) (by rfl) (pa_cons (pv 0) (pa_cons (pv 1) pa_nil))))
    (pss_one (ps_expr (pe_fn d_need_verdicts (hr.mono (by decide)) (by rfl) (pa_cons (pv 0) (pa_cons (pv 1) (pa_cons (pv 2) pa_nil)))))))), ?_⟩
    try dsimp only [cxOf, Cx.nox, Cx.wish]
    refine q_drop e (d := .non) (e_call (a_one (by walk_at "ev")) ⟨c, rfl, oc, rfl⟩) fun G1 H1 s1 => ?_
    have r0 := r0.ex s1.g
    have r1 := r1.ex s1.g
    have r2 := r2.ex s1.g
    refine q_drop s1.i (d := .non) (e_call (a_cons (by walk_at "ev") (a_one (by walk_at "ev"))) ⟨c, ts, rfl, oc, ot, rfl⟩) fun G2 H2 s2 => ?_
    have r0 := r0.ex s2.g
    have r1 := r1.ex s2.g
    have r2 := r2.ex s2.g
    refine s_drop s2.i (d := .non) (e_call (a_cons (by walk_at "ev") (a_cons (by walk_at "ev") (a_one (by walk_at "ev")))) ⟨c, ts, vs, rfl, oc, ot, ov, hlen, rfl⟩) fun G3 H3 s3 => ?_
    exact q .non G3 H3 ((s1.trans s2).trans s3) .non

end

section
variable {P : Program} {w : World} {K : PySem.W.Frag} {mg : Str → Option Value} {base : Heap}
abbrev s_table_of : Stmt := top 28
abbrev N_table_of : List Str := ["verdicts", "number", "trial", "passed"]
abbrev P_table_of : List Str := ["verdicts"]
theorem sc_table_of : FnScope N_table_of P_table_of (defScope s_table_of) := ⟨rfl, rfl, rfl, by decide +kernel, rfl, by decide +kernel, by decide +kernel⟩

def verT (vs : List Ver) : List (List Key × V) := mergeT [] (vs.map fun v => (verK v, .bl v.2.2))
def R_table_of (ds : List D) (r : D) : Prop := ∃ (vs : List Ver), ds = [vrsD vs] ∧ vs.length ≤ 100000 ∧ r = .tab (verT vs)
abbrev sp_table_of (K : PySem.W.Frag) : Sp := spP K R_table_of
theorem ok_table_of {f : Addr} {fd : FuncData} (F : Fun K "table_of" "table_of" s_table_of f fd) (T : Tx K mg) : FnOk P w K mg base CX0 1 f fd P_table_of (sp_table_of K) := by
  refine F.ok sc_table_of (fun vs H Q E h => ?_) (fun cdv A outer s H vs Q E hr h => ?_)
  · obtain ⟨G, ds, r, e, ra, ⟨vs, rfl, hlen, rfl⟩, q⟩ := h
    exact ra.len
  · obtain ⟨G, ds, r, e, ra, ⟨vs, rfl, hlen, rfl⟩, q⟩ := h
    obtain ⟨v0, rfl, r0⟩ := ra.one
    refine ⟨_, (pss_one (ps_ret (pe_callTy (call_dictK K rfl rfl hr.units) (by rfl) T.n_dict (by decide +kernel) (pa_cons (pe_lc (own := [("number", 1), ("trial", 2), ("passed", 3)]) (g := gTup K 3 (gCons (gName 1) (gCons (gName 2) (gCons (gName 3) gNil)))) (tt := tYes) rfl sc_table_of.nd (pi_seqK K rfl (pv 0)) (blkOk_by (own := [("number", 1), ("trial", 2), ("passed", 3)]) (N := N_table_of) (sc := defScope s_table_of) (by decide +kernel)) (fun _ _ _ _ _ => (pg_tup rfl (pgs_cons (pg_name (i := 1) sc_table_of.nd rfl (by first | exact Or.inl rfl | exact Or.inr rfl)) (pgs_cons (pg_name (i := 2) sc_table_of.nd rfl (by first | exact Or.inl rfl | exact Or.inr rfl)) (pgs_cons (pg_name (i := 3) sc_table_of.nd rfl (by first | exact Or.inl rfl | exact Or.inr rfl)) pgs_nil))))) (fun _ _ _ _ _ => pts_nil) (fun _ _ _ _ _ => (pe_tup (pa_cons (pe_tup (pa_cons (pv 1) (pa_cons (pv 2) pa_nil))) (pa_cons (pv 3) pa_nil))))) pa_nil)))), ?_⟩
    try dsimp only [cxOf, Cx.nox, Cx.wish]
    refine s_ret (d := .tab (verT vs)) e ?_ q
    refine e_dictT (kvs := vs.map fun v => (verK v, .bl v.2.2)) (EvF.toD (f_lcm (xs := vs) (Y := nth (vs.map vrD)) (js := [1, 2, 3]) (fun _ v => [.int v.1, .int v.2.1, .bl v.2.2]) (fun _ => true) (fun v => .tup [.tup [.int v.1, .int v.2.1], .bl v.2.2])
      (i_seqL' (List.length_map _) (by walk_at "ev")) (fun i x hx => by rw [nth_map hx]; exact g_three) (by omega) (fun _ _ _ => rfl) (fun us h => match us, h with | [_, _, _], _ => rfl)
      (fun _ _ _ _ _ _ _ => b_yes) (fun i x hx _ G1 e1 us ru => ?_))) ?_ ?_
    · obtain ⟨a, b, c, rfl, ra, rb, rc⟩ := ru.three
      exact e_tup2 (e_tup2 (e_var rfl ra) (e_var rfl rb)) (e_var rfl rc)
    · rw [List.filter_eq_self.mpr (fun _ _ => rfl), List.map_map]
      rfl
    · intro kv hkv
      obtain ⟨v, _, rfl⟩ := List.mem_map.mp hkv
      rfl

end

section
variable {P : Program} {w : World} {K : PySem.W.Frag} {mg : Str → Option Value} {base : Heap}
abbrev s_state_of : Stmt := top 33
abbrev N_state_of : List Str := ["some"]
abbrev P_state_of : List Str := ["some"]
theorem sc_state_of : FnScope N_state_of P_state_of (defScope s_state_of) := ⟨rfl, rfl, rfl, by decide +kernel, rfl, by decide +kernel, by decide +kernel⟩

/-- what stands of a trial: none, or whether it passed -/
def obD : Option Bool → D
  | none => .non
  | some b => .bl b
inductive Sta | passed | failed | opened
  deriving DecidableEq
def Sta.s : Sta → Str
  | .passed => PySem.Str.ofString "passed"
  | .failed => PySem.Str.ofString "failed"
  | .opened => PySem.Str.ofString "open"
def staOf (bs : List (Option Bool)) : Sta := if some false ∈ bs then .failed else if none ∈ bs then .opened else .passed
def R_state_of (ds : List D) (r : D) : Prop := ∃ bs : List (Option Bool), ds = [.lst (bs.map obD)] ∧ r = .str (staOf bs).s
abbrev sp_state_of (K : PySem.W.Frag) : Sp := spP K R_state_of
theorem flat_ob (bs : List (Option Bool)) : (bs.map obD).all D.flat = true := by
  rw [List.all_map]
  exact List.all_eq_true.mpr fun b _ => by cases b <;> rfl
theorem in_ob (b : Option Bool) (bs : List (Option Bool)) : inD (obD b) (bs.map obD) = decide (b ∈ bs) := by
  unfold inD inV
  rw [List.map_map, List.any_map]
  induction bs with
  | nil => rfl
  | cons a bs ih =>
    rw [List.any_cons, ih]
    have e : ((fun y => eqV y (obD b).toV) ∘ (D.toV ∘ obD)) a = decide (b = a) := by
      cases a <;> cases b <;> first | rfl | (rename_i x; cases x <;> rfl) | (rename_i x y; cases x <;> cases y <;> rfl)
    rw [e]
    by_cases h : b = a
    · simp [h]
    · simp [h]
theorem ok_state_of {f : Addr} {fd : FuncData} (F : Fun K "state_of" "state_of" s_state_of f fd) (T : Tx K mg) : FnOk P w K mg base CX0 1 f fd P_state_of (sp_state_of K) := by
  refine F.ok sc_state_of (fun vs H Q E h => ?_) (fun cdv A outer s H vs Q E hr h => ?_)
  · obtain ⟨G, ds, r, e, ra, ⟨bs, rfl, rfl⟩, q⟩ := h
    exact ra.len
  · obtain ⟨G, ds, r, e, ra, ⟨bs, rfl, rfl⟩, q⟩ := h
    obtain ⟨v0, rfl, r0⟩ := ra.one
    refine ⟨_, (pss_cons (ps_if (pt_cmpR (op_inK K rfl) pe_bl (pv 0) (by rfl)) (pss_one (ps_ret (pe_gS rfl T.c_FAILED))) pss_nil)
    (pss_one (ps_ret (pe_ifExp (pt_cmpR (op_inK K rfl) pe_non (pv 0) (by rfl)) (pe_gS rfl T.c_OPEN) (pe_gS rfl T.c_PASSED))))), ?_⟩
    try dsimp only [cxOf, Cx.nox, Cx.wish]
    refine q_when (b := decide (some false ∈ bs)) e (b_test (EvD.bl (e_in (d1 := .bl false) (d2 := .lst (bs.map obD)) (by walk_at "ev") (by walk_at "ev") rfl rfl (flat_ob bs)) (in_ob (some false) bs))) (fun hb G1 H1 s1 => ?_) (fun hb G1 H1 s1 => ?_)
    · refine s_ret (d := .str (staOf bs).s) s1.i ?_ fun v G2 H2 s2 r2 => q v G2 H2 (s1.trans s2) r2
      unfold staOf
      rw [if_pos (of_decide_eq_true hb)]
      exact e_str
    · have r0 := r0.ex s1.g
      refine s_ret (d := .str (staOf bs).s) s1.i ?_ fun v G2 H2 s2 r2 => q v G2 H2 (s1.trans s2) r2
      unfold staOf
      rw [if_neg (of_decide_eq_false hb)]
      refine e_if (a := decide (none ∈ bs)) (b_test (EvD.bl (e_in (d1 := .non) (d2 := .lst (bs.map obD)) (by walk_at "ev") (by walk_at "ev") rfl rfl (flat_ob bs)) (in_ob none bs))) (fun h => ?_) (fun h => ?_)
      · rw [if_pos (of_decide_eq_true h)]
        exact e_str
      · rw [if_neg (of_decide_eq_false h)]
        exact e_str

end

/-! ### the states of groups -/
theorem pick_all {n : Nat} {f : Nat → D} : pick n (fun _ => true) f = (List.range n).map f := by
  unfold pick
  rw [List.filter_eq_self.mpr (fun _ _ => rfl)]
structure TabOk (kvs : List (List Key × V)) (tb : Nat → Nat → Option Bool) : Prop where
  at' : ∀ n t : Nat, valV kvs [.inl n, .inl t] = (tb n t).map V.bl
theorem TabOk.get {kvs : List (List Key × V)} {tb : Nat → Nat → Option Bool} (h : TabOk kvs tb) (n t : Nat) : vD ((valV kvs [.inl n, .inl t]).getD .non) = obD (tb n t) := by
  rw [h.at']
  cases tb n t <;> rfl
theorem TabOk.has {kvs : List (List Key × V)} {tb : Nat → Nat → Option Bool} (h : TabOk kvs tb) (n t : Nat) : (valV kvs [.inl n, .inl t]).isSome = (tb n t).isSome := by
  rw [h.at']
  cases tb n t <;> rfl
theorem TabOk.scal {kvs : List (List Key × V)} {tb : Nat → Nat → Option Bool} (h : TabOk kvs tb) (n t : Nat) : ∀ v, valV kvs [.inl n, .inl t] = some v → scalV v = true := by
  intro v e
  rw [h.at'] at e
  cases q : tb n t with
  | none => rw [q] at e; cases e
  | some b => rw [q] at e; cases e; rfl
def grp (gs : List (Nat × Nat)) (g : Nat) : Nat × Nat := gs.getD g (0, 0)
theorem grp_at {gs : List (Nat × Nat)} {g : Nat} (h : g < gs.length) : gs[g]? = some (grp gs g) := by
  unfold grp
  rw [List.getD_eq_getElem?_getD, List.getElem?_eq_getElem h]
  rfl
def pre (gs : List (Nat × Nat)) (g : Nat) : Nat := ((gs.take g).map (·.1)).sum
theorem pre_zero (gs : List (Nat × Nat)) : pre gs 0 = 0 := rfl
theorem pre_succ {gs : List (Nat × Nat)} {g : Nat} (h : g < gs.length) : pre gs (g + 1) = pre gs g + (grp gs g).1 := by
  unfold pre
  rw [List.take_add_one, grp_at h]
  simp
theorem pre_full {gs : List (Nat × Nat)} : pre gs gs.length = sizeG gs := by
  unfold pre sizeG
  rw [List.take_length]
theorem pre_mono {gs : List (Nat × Nat)} : ∀ {a b : Nat}, a ≤ b → b ≤ gs.length → pre gs a ≤ pre gs b
  | a, b, h, hb => by
    induction b with
    | zero =>
      have : a = 0 := by omega
      subst this
      exact Nat.le_refl _
    | succ b ih =>
      by_cases e : a = b + 1
      · subst e; exact Nat.le_refl _
      · have h1 := ih (by omega) (by omega)
        rw [pre_succ (by omega)]
        omega
def gSt (gs : List (Nat × Nat)) (f : Nat → Option Bool) (g : Nat) : Sta := staOf ((List.range (grp gs g).1).map fun j => f (pre gs g + j))
def gSts (gs : List (Nat × Nat)) (f : Nat → Option Bool) : List Sta := (List.range gs.length).map (gSt gs f)
theorem gSts_len {gs : List (Nat × Nat)} {f : Nat → Option Bool} : (gSts gs f).length = gs.length := by
  unfold gSts
  rw [List.length_map, List.length_range]
theorem gSts_at {gs : List (Nat × Nat)} {f : Nat → Option Bool} {g : Nat} (h : g < gs.length) : (gSts gs f)[g]? = some (gSt gs f g) := by
  unfold gSts
  rw [List.getElem?_map, List.getElem?_range h]
  rfl
def stD (s : Sta) : D := .str s.s
/-- the groups of a try's task -/
abbrev gsOf (c : Con) (ts : List Try) (n : Nat) : List (Nat × Nat) := c.groups (tryAt ts n).2.1
theorem Con.size_le20 {c : Con} (o : c.Ok) {k : Nat} (h : k < c.tasks.length) : c.size k ≤ 20 := by
  have q := Con.task_ok o h
  have := size_le q.2.2.2
  have h2 := q.2.2.1
  show sizeG (c.groups k) ≤ 20
  omega

section
variable {P : Program} {w : World} {K : PySem.W.Frag} {mg : Str → Option Value} {base : Heap}
abbrev s_group_states : Stmt := top 34
abbrev N_group_states : List Str := ["contest", "tries", "table", "number", "found", "begin", "many", "points", "trial"]
abbrev P_group_states : List Str := ["contest", "tries", "table", "number"]
theorem sc_group_states : FnScope N_group_states P_group_states (defScope s_group_states) := ⟨rfl, rfl, rfl, by decide +kernel, rfl, by decide +kernel, by decide +kernel⟩

def R_group_states (ds : List D) (r : List D) : Prop := ∃ (c : Con) (ts : List Try) (kvs : List (List Key × V)) (tb : Nat → Nat → Option Bool) (n : Nat), ds = [c.d, trsD ts, .tab kvs, .int n] ∧ c.Ok ∧ TriesOk c ts ∧ TabOk kvs tb ∧ n < ts.length ∧ r = (gSts (gsOf c ts n) (tb n)).map stD
abbrev sp_group_states (K : PySem.W.Frag) : Sp := spF K R_group_states
theorem ok_group_states {f : Addr} {fd : FuncData} (F : Fun K "group_states" "group_states" s_group_states f fd) (T : Tx K mg) (d_state_of : Dk P w K mg base 1 "state_of" P_state_of (sp_state_of K)) : FnOk P w K mg base CX0 2 f fd P_group_states (sp_group_states K) := by
  refine F.ok sc_group_states (fun vs H Q E h => ?_) (fun cdv A outer s H vs Q E hr h => ?_)
  · obtain ⟨G, ds, r, e, ra, ⟨c, ts, kvs, tb, n, rfl, oc, ot, otb, hn, rfl⟩, q⟩ := h
    exact ra.len
  · obtain ⟨G, ds, r, e, ra, ⟨c, ts, kvs, tb, n, rfl, oc, ot, otb, hn, rfl⟩, q⟩ := h
    obtain ⟨v0, v1, v2, v3, rfl, r0, r1, r2, r3⟩ := ra.four
    refine ⟨_, (pss_cons (ps_set (i := 4) sc_group_states.nd rfl (by first | exact Or.inl rfl | exact Or.inr rfl) (pe_lst pa_nil))
    (pss_cons (ps_set (i := 5) sc_group_states.nd rfl (by first | exact Or.inl rfl | exact Or.inr rfl) pe_int)
    (pss_cons (ps_for PassesOwn.never rfl (pi_seqK K rfl (pe_ix (ix_seqK K rfl) (pe_ix (ix_seqK K rfl) (pe_ix (ix_seqK K rfl) (pv 0) pe_int (fun _ _ => rfl)) (pe_ix (ix_seqK K rfl) (pe_ix (ix_seqK K rfl) (pv 1) (pv 3) (fun _ _ => rfl)) pe_int (fun _ _ => rfl)) (fun _ _ => rfl)) pe_int (fun _ _ => rfl))) (pg_tup rfl (pgs_cons (pg_name (i := 6) sc_group_states.nd rfl (by first | exact Or.inl rfl | exact Or.inr rfl)) (pgs_cons (pg_name (i := 7) sc_group_states.nd rfl (by first | exact Or.inl rfl | exact Or.inr rfl)) pgs_nil))) (pss_cons (ps_expr (pe_bm PySem.F.plainAttrs_list PySem.F.slot_list_append PySem.F.type_list_append mt_append (pv 4) (pa_cons (pe_fn d_state_of (hr.mono (by decide)) (by rfl) (pa_cons (pe_lc (own := [("trial", 8)]) (g := gName 8) (tt := tYes) rfl sc_group_states.nd (pi_range2 (by rfl) T.n_range (pa_cons (pv 5) (pa_cons (pe_op (op_addK K rfl) (pv 5) (pv 6)) pa_nil))) (blkOk_by (own := [("trial", 8)]) (N := N_group_states) (sc := defScope s_group_states) (by decide +kernel)) (fun _ _ _ _ _ => (pg_name (i := 8) sc_group_states.nd rfl (by first | exact Or.inl rfl | exact Or.inr rfl))) (fun _ _ _ _ _ => pts_nil) (fun _ _ _ _ _ => (pe_dget2 (hu_of hr) (pv 2) (pe_tup (pa_cons (pv 3) (pa_cons (pv 8) pa_nil))) pe_non ⟨rfl, rfl, rfl, rfl⟩))) pa_nil)) pa_nil)))
    (pss_one (ps_set (i := 5) sc_group_states.nd rfl (by first | exact Or.inl rfl | exact Or.inr rfl) (pe_op (op_addK K rfl) (pv 5) (pv 6))))))
    (pss_one (ps_ret (pv 4)))))), ?_⟩
    try dsimp only [cxOf, Cx.nox, Cx.wish]
    have hk := try_at hn
    have ok := ot.at hn
    have hc := Con.task_at ok.task
    obtain ⟨o1, o2, o3, o4⟩ := Con.task_ok oc ok.task
    have o3 : (gsOf c ts n).length ≤ 4 := o3
    have hsz := Con.size_le20 oc ok.task
    refine q_newL e fun p H1 hp gp s1 hx => ?_
    refine q_asgC ?_
    refine q_for (n := (gsOf c ts n).length) (js := [6, 7]) (E := fun i => [.int (grp (gsOf c ts n) i).1, .int (grp (gsOf c ts n) i).2]) s1
      (i_seqT' (List.length_map (f := gD)) (e_ix (d1 := tkD (c.task (tryAt ts n).2.1)) (e_ix (d1 := .tup (c.tasks.map tkD)) (i := ((tryAt ts n).2.1 : Nat)) (e_ix (d1 := c.d) (by walk_at "ev") e_int rfl)
        (e_ix (d1 := trD (tryAt ts n)) (e_ix (d1 := trsD ts) (i := n) (by walk_at "ev") (e_var rfl (r3.flat_any rfl)) (at_mapL hk)) e_int rfl) (at_mapT hc)) e_int rfl))
      (fun i hi => by rw [nth_map (grp_at hi)]; exact g_two)
      (fun i σ' G' H' => G' p = none ∧ (∃ xs, H' p = some (.lst xs) ∧ RpA K G' xs (((List.range i).map (gSt (gsOf c ts n) (tb n))).map stD)) ∧ ∃ w6 w7 w8, σ' = [some v0, some v1, some v2, some v3, some (.ref p), some (.int (pre (gsOf c ts n) i)), w6, w7, w8])
      (fun G3 H3 s3 => ⟨(s3.keep gp hx).1, ⟨_, (s3.keep gp hx).2, .nil⟩, none, none, none, rfl⟩) ?_ ?_
    · rintro Gw ew i hi σ' G' H' S' ew' ⟨g', ⟨xs, x', rx⟩, w6, w7, w8, rfl⟩ G3 H3 us s3 ru
      obtain ⟨a, b, rfl, ra, rb⟩ := ru.two
      cases ra
      have e3 : Ex G G3 := ew.trans (ew'.trans s3.g)
      have q2 := r2.ex e3
      have q3 : Rp K G3 v3 (.int n) := r3.flat_any rfl
      obtain ⟨g3, x3⟩ := s3.keep g' x'
      have hb2 := pre_mono (gs := gsOf c ts n) (a := i + 1) (b := (gsOf c ts n).length) (by omega) (Nat.le_refl _)
      rw [pre_full] at hb2
      have hb3 := pre_succ hi
      have hsz' : sizeG (gsOf c ts n) ≤ 20 := hsz
      refine q_app (d := stD (gSt (gsOf c ts n) (tb n) i)) s3.i g3 x3 rfl (e_call (a_one (EvD.eq (EvF.toD (f_lc (n := (grp (gsOf c ts n) i).1) (js := [8]) (fun k => [.int ((pre (gsOf c ts n) i : Nat) + k)]) (fun _ => true) (fun k => obD (tb n (pre (gsOf c ts n) i + k)))
          (i_rng2' (i := (pre (gsOf c ts n) i : Nat)) (j := (pre (gsOf c ts n) i : Nat) + ((grp (gsOf c ts n) i).1 : Nat)) (e_var rfl (.int _)) (e_addI (e_var rfl (.int _)) (e_var rfl (.int _))) (by omega) (by omega)) (fun _ _ => g_name) (by omega) (fun _ _ => rfl)
          (fun us h => match us, h with | [_], _ => rfl) (fun _ _ _ _ _ _ => b_yes) (fun k hk' _ G4 e4 us ru => ?_))) ?_)) ⟨(List.range (grp (gsOf c ts n) i).1).map (fun k => tb n (pre (gsOf c ts n) i + k)), rfl, rfl⟩) ?_ fun v G4 H4 s4 g4 rv => ?_
      · obtain ⟨y, rfl, ry⟩ := ru.one
        cases ry
        exact EvD.eq (e_dget2 (ks := [.inl n, .inl ((pre (gsOf c ts n) i : Nat) + (k : Int))]) (e_var rfl (q2.ex e4)) (e_tup2 (e_var rfl (q3.flat_any rfl)) (e_var rfl (.int _))) rfl e_non rfl (otb.scal n (pre (gsOf c ts n) i + k))) (otb.get n (pre (gsOf c ts n) i + k))
      · rw [pick_all, List.map_map]
        rfl
      · have := rx.len
        rw [List.length_map, List.length_map, List.length_range] at this
        omega
      · have S4 := (S'.trans s3).trans s4
        refine s_asg (S4.mut hp g4).i (d := .int (pre (gsOf c ts n) (i + 1))) (EvD.int (e_addI (e_var rfl (.int _)) (e_var rfl (.int _))) (by omega)) fun v5 G5 H5 s5 r5 => ?_
        cases r5
        obtain ⟨g5, x5⟩ := s5.keep g4 upd_same
        refine ⟨G5, (S4.mut hp g4).trans s5, ew'.trans (s3.g.trans (s4.g.trans s5.g)), g5, ⟨_, x5, ?_⟩, _, _, _, rfl⟩
        rw [List.range_succ, List.map_append, List.map_append]
        exact (rx.ex ((s3.g.trans s4.g).trans s5.g)).snoc (rv.ex s5.g)
    · rintro σ' G' H' S' ew ⟨g', ⟨xs, x', rx⟩, w6, w7, w8, rfl⟩
      exact ⟨_, rfl, q p xs G' H' S' hp g' x' rx⟩

end

section
variable {P : Program} {w : World} {K : PySem.W.Frag} {mg : Str → Option Value} {base : Heap}
abbrev s_try_state : Stmt := top 35
abbrev N_try_state : List Str := ["contest", "tries", "table", "number", "states"]
abbrev P_try_state : List Str := ["contest", "tries", "table", "number"]
theorem sc_try_state : FnScope N_try_state P_try_state (defScope s_try_state) := ⟨rfl, rfl, rfl, by decide +kernel, rfl, by decide +kernel, by decide +kernel⟩

def trySt (ss : List Sta) : Sta := if Sta.failed ∈ ss then .failed else if Sta.opened ∈ ss then .opened else .passed
/-- the state of try n -/
def tSt (c : Con) (ts : List Try) (tb : Nat → Nat → Option Bool) (n : Nat) : Sta := trySt (gSts (gsOf c ts n) (tb n))
def R_try_state (ds : List D) (r : D) : Prop := ∃ (c : Con) (ts : List Try) (kvs : List (List Key × V)) (tb : Nat → Nat → Option Bool) (n : Nat), ds = [c.d, trsD ts, .tab kvs, .int n] ∧ c.Ok ∧ TriesOk c ts ∧ TabOk kvs tb ∧ n < ts.length ∧ r = stD (tSt c ts tb n)
abbrev sp_try_state (K : PySem.W.Frag) : Sp := spP K R_try_state
theorem flat_st (ss : List Sta) : (ss.map stD).all D.flat = true := by
  rw [List.all_map]
  exact List.all_eq_true.mpr fun b _ => rfl
theorem st_inj {a b : Sta} (h : a.s = b.s) : a = b := by
  cases a <;> cases b <;> first | rfl | exact absurd h (by decide +kernel)
theorem in_st (s : Sta) (ss : List Sta) : inD (stD s) (ss.map stD) = decide (s ∈ ss) := by
  unfold inD inV
  rw [List.map_map, List.any_map]
  induction ss with
  | nil => rfl
  | cons a ss ih =>
    rw [List.any_cons, ih]
    have e : ((fun y => eqV y (stD s).toV) ∘ (D.toV ∘ stD)) a = decide (s = a) := by
      show eqV (.str a.s) (.str s.s) = decide (s = a)
      show (a.s == s.s) = decide (s = a)
      by_cases h : s = a
      · subst h; simp
      · rw [decide_eq_false h]
        exact beq_eq_false_iff_ne.mpr fun z => h (st_inj z).symm
    rw [e]
    by_cases h : s = a
    · simp [h]
    · simp [h]
theorem ok_try_state {f : Addr} {fd : FuncData} (F : Fun K "try_state" "try_state" s_try_state f fd) (T : Tx K mg) (d_group_states : Dk P w K mg base 2 "group_states" P_group_states (sp_group_states K)) : FnOk P w K mg base CX0 3 f fd P_try_state (sp_try_state K) := by
  refine F.ok sc_try_state (fun vs H Q E h => ?_) (fun cdv A outer s H vs Q E hr h => ?_)
  · obtain ⟨G, ds, r, e, ra, ⟨c, ts, kvs, tb, n, rfl, oc, ot, otb, hn, rfl⟩, q⟩ := h
    exact ra.len
  · obtain ⟨G, ds, r, e, ra, ⟨c, ts, kvs, tb, n, rfl, oc, ot, otb, hn, rfl⟩, q⟩ := h
    obtain ⟨v0, v1, v2, v3, rfl, r0, r1, r2, r3⟩ := ra.four
    refine ⟨_, (pss_cons (ps_set (i := 4) sc_try_state.nd rfl (by first | exact Or.inl rfl | exact Or.inr rfl) (pe_fn d_group_states (hr.mono (by decide)) (by rfl) (pa_cons (pv 0) (pa_cons (pv 1) (pa_cons (pv 2) (pa_cons (pv 3) pa_nil))))))
    (pss_cons (ps_if (pt_cmpR (op_inK K rfl) (pe_gS rfl T.c_FAILED) (pv 4) (by rfl)) (pss_one (ps_ret (pe_gS rfl T.c_FAILED))) pss_nil)
    (pss_one (ps_ret (pe_ifExp (pt_cmpR (op_inK K rfl) (pe_gS rfl T.c_OPEN) (pv 4) (by rfl)) (pe_gS rfl T.c_OPEN) (pe_gS rfl T.c_PASSED)))))), ?_⟩
    try dsimp only [cxOf, Cx.nox, Cx.wish]
    refine q_asg e (d := .lst ((gSts (gsOf c ts n) (tb n)).map stD)) (EvF.toD (f_call (K := K) (a_cons (by walk_at "ev") (a_cons (by walk_at "ev") (a_cons (by walk_at "ev") (a_one (by walk_at "ev"))))) ⟨c, ts, kvs, tb, n, rfl, oc, ot, otb, hn, rfl⟩)) fun v G1 H1 s1 rv => ?_
    show tSeq _ _ _ [some v0, some v1, some v2, some v3, some v] _
    have q : ∀ (v : V) (G' H' : Hp), Step G H G' H' → Rp K G' v (stD (trySt (gSts (gsOf c ts n) (tb n)))) → Q v H' := q
    generalize gSts (gsOf c ts n) (tb n) = ss at *
    refine q_when (b := decide (Sta.failed ∈ ss)) s1.i (b_test (EvD.bl (e_in (d1 := stD .failed) (d2 := .lst (ss.map stD)) e_str (by walk_at "ev") rfl rfl (flat_st ss)) (in_st .failed ss))) (fun hb G2 H2 s2 => ?_) (fun hb G2 H2 s2 => ?_)
    · refine s_ret (d := stD (trySt ss)) s2.i ?_ fun v G3 H3 s3 r3 => q v G3 H3 ((s1.trans s2).trans s3) r3
      unfold trySt
      rw [if_pos (of_decide_eq_true hb)]
      exact e_str
    · have rv := rv.ex s2.g
      refine s_ret (d := stD (trySt ss)) s2.i ?_ fun v G3 H3 s3 r3 => q v G3 H3 ((s1.trans s2).trans s3) r3
      unfold trySt
      rw [if_neg (of_decide_eq_false hb)]
      refine e_if (a := decide (Sta.opened ∈ ss)) (b_test (EvD.bl (e_in (d1 := stD .opened) (d2 := .lst (ss.map stD)) e_str (by walk_at "ev") rfl rfl (flat_st ss)) (in_st .opened ss))) (fun h => ?_) (fun h => ?_)
      · rw [if_pos (of_decide_eq_true h)]
        exact e_str
      · rw [if_neg (of_decide_eq_false h)]
        exact e_str

end

section
variable {P : Program} {w : World} {K : PySem.W.Frag} {mg : Str → Option Value} {base : Heap}
abbrev s_numbers_of : Stmt := top 36
abbrev N_numbers_of : List Str := ["contest", "tries", "team", "task", "until", "k", "one"]
abbrev P_numbers_of : List Str := ["contest", "tries", "team", "task", "until"]
theorem sc_numbers_of : FnScope N_numbers_of P_numbers_of (defScope s_numbers_of) := ⟨rfl, rfl, rfl, by decide +kernel, rfl, by decide +kernel, by decide +kernel⟩

/-- the tries of a team at a task ahead of a time -/
def isOf (team task until' : Nat) (t : Try) : Bool := decide (t.1 = team ∧ t.2.1 = task) && decide (t.2.2 < until')
def numsOf (ts : List Try) (team task until' : Nat) : List Nat := (List.range ts.length).filter fun k => isOf team task until' (tryAt ts k)
def natD (n : Nat) : D := .int n
def R_numbers_of (ds : List D) (r : List D) : Prop := ∃ (c : Con) (ts : List Try) (team task until' : Nat), ds = [c.d, trsD ts, .int team, .int task, .int until'] ∧ ts.length ≤ 200 ∧ r = (numsOf ts team task until').map natD
abbrev sp_numbers_of (K : PySem.W.Frag) : Sp := spF K R_numbers_of
theorem eqv2 (a b c d : Nat) : PyData.eqv (D.py (.tup [.int a, .int b])) (D.py (.tup [.int c, .int d])) = decide (a = c ∧ b = d) := by
  show (((a : Int) == (c : Int)) && (((b : Int) == (d : Int)) && true)) = _
  by_cases h1 : a = c
  · by_cases h2 : b = d
    · simp [h1, h2]
    · simp [h1, h2]
      intro z; exact h2 (Int.ofNat.inj z)
  · simp [h1]
    intro z; exact absurd (Int.ofNat.inj z) h1
theorem e_pair {σ : L2.St} {G : Hp} {te : TE} {t : Try} (h : EvD K te σ G (trD t)) : EvD K (tSl (rSlA K) te tNoPart (tPart (tC (.int 2)))) σ G (.tup [.int t.1, .int t.2.1]) :=
  e_slT h p_none (p_some (e_int (K := K))) (fun z => by have h : (2 : Nat) = 3 := z.2; omega) rfl
theorem ok_numbers_of {f : Addr} {fd : FuncData} (F : Fun K "numbers_of" "numbers_of" s_numbers_of f fd) (T : Tx K mg) : FnOk P w K mg base CX0 1 f fd P_numbers_of (sp_numbers_of K) := by
  refine F.ok sc_numbers_of (fun vs H Q E h => ?_) (fun cdv A outer s H vs Q E hr h => ?_)
  · obtain ⟨G, ds, r, e, ra, ⟨c, ts, team, task, unt, rfl, hts, rfl⟩, q⟩ := h
    exact ra.len
  · obtain ⟨G, ds, r, e, ra, ⟨c, ts, team, task, unt, rfl, hts, rfl⟩, q⟩ := h
    obtain ⟨v0, v1, v2, v3, v4, rfl, r0, r1, r2, r3, r4⟩ := ra.five
    refine ⟨_, (pss_one (ps_ret (pe_lc (own := [("k", 5), ("one", 6)]) (g := gTup K 2 (gCons (gName 5) (gCons (gName 6) gNil))) (tt := _) rfl sc_numbers_of.nd (pi_enK K rfl (by rfl) T.n_enumerate (pa_cons (pv 1) pa_nil)) (blkOk_by (own := [("k", 5), ("one", 6)]) (N := N_numbers_of) (sc := defScope s_numbers_of) (by decide +kernel)) (fun _ _ _ _ _ => (pg_tup rfl (pgs_cons (pg_name (i := 5) sc_numbers_of.nd rfl (by first | exact Or.inl rfl | exact Or.inr rfl)) (pgs_cons (pg_name (i := 6) sc_numbers_of.nd rfl (by first | exact Or.inl rfl | exact Or.inr rfl)) pgs_nil)))) (fun _ _ _ _ _ => (pts_one (PW.pt (pw_and (pt_cmpR (op_eqK K rfl hr.units) (pe_slice (sl_seqK K rfl) (pv 6) po_none (po_some pe_int)) (pe_tup (pa_cons (pv 2) (pa_cons (pv 3) pa_nil))) (nomark _)) (pw_and1 (pt_cmpR op_lt (pe_ix (ix_seqK K rfl) (pv 6) pe_int (fun _ _ => rfl)) (pv 4) (nomark _))))))) (fun _ _ _ _ _ => (pv 5))))), ?_⟩
    try dsimp only [cxOf, Cx.nox, Cx.wish]
    refine s_retF e (ds := (numsOf ts team task unt).map natD) ?_ q
    unfold numsOf
    refine f_lc (n := ts.length) (js := [5, 6]) (fun i => [.int i, nth (ts.map trD) i]) (fun k => isOf team task unt (tryAt ts k)) natD (i_enL' (List.length_map _) (by walk_at "ev")) (fun _ _ => g_two) (by omega) (fun _ _ => rfl)
      (fun us h => match us, h with | [_, _], _ => rfl) (fun i hi G1 e1 us ru => ?_) (fun i hi _ G1 e1 us ru => ?_)
    · rw [nth_map (try_at hi)] at ru
      obtain ⟨a, b, rfl, ra, rb⟩ := ru.two
      have q2 : Rp K G1 v2 (.int team) := r2.flat_any rfl
      have q3 : Rp K G1 v3 (.int task) := r3.flat_any rfl
      have q4 : Rp K G1 v4 (.int unt) := r4.flat_any rfl
      refine b_and (b_test (EvD.bl (e_eqD (e_pair (e_var rfl rb)) (e_tup2 (e_var rfl q2) (e_var rfl q3)) rfl rfl) (eqv2 _ _ _ _))) fun _ => b_test (EvD.bl (e_lt (e_ix (d1 := trD (tryAt ts i)) (e_var rfl rb) e_int rfl) (e_var rfl q4)) (dec_iff Int.ofNat_lt))
    · obtain ⟨a, b, rfl, ra, rb⟩ := ru.two
      exact e_var rfl ra

end

section
variable {P : Program} {w : World} {K : PySem.W.Frag} {mg : Str → Option Value} {base : Heap}
abbrev s_is_over : Stmt := top 38
abbrev N_is_over : List Str := ["contest", "tries", "table", "number", "team", "task", "time", "ahead", "one"]
abbrev P_is_over : List Str := ["contest", "tries", "table", "number"]
theorem sc_is_over : FnScope N_is_over P_is_over (defScope s_is_over) := ⟨rfl, rfl, rfl, by decide +kernel, rfl, by decide +kernel, by decide +kernel⟩

theorem numsOf_lt {ts : List Try} {a b c k : Nat} (h : k ∈ numsOf ts a b c) : k < ts.length := List.mem_range.mp (List.mem_filter.mp h).1
/-- whether no trial of a try matters -/
def isOver (c : Con) (ts : List Try) (tb : Nat → Nat → Option Bool) (n : Nat) : Bool :=
  decide (c.fin ≤ (tryAt ts n).2.2) || (decide (c.rule = sFirst) && (decide (tSt c ts tb n = .failed) ||
    (((numsOf ts (tryAt ts n).1 (tryAt ts n).2.1 c.fin).filter fun k => decide (k < n)).any fun k => decide (tSt c ts tb k = .passed))))
def R_is_over (ds : List D) (r : D) : Prop := ∃ (c : Con) (ts : List Try) (kvs : List (List Key × V)) (tb : Nat → Nat → Option Bool) (n : Nat), ds = [c.d, trsD ts, .tab kvs, .int n] ∧ c.Ok ∧ TriesOk c ts ∧ TabOk kvs tb ∧ n < ts.length ∧ r = .bl (isOver c ts tb n)
abbrev sp_is_over (K : PySem.W.Frag) : Sp := spP K R_is_over
theorem st_eq (a b : Sta) : decide (a.s = b.s) = decide (a = b) := dec_iff ⟨st_inj, fun h => congrArg _ h⟩
theorem ok_lst {α : Type} {xs : List α} {f : α → D} (h : ∀ x ∈ xs, ∃ i : Int, f x = .int i) : D.ok (.lst (xs.map f)) = true := by
  have h1 : D.plainA (xs.map f) = true := by
    induction xs with
    | nil => rfl
    | cons x xs ih =>
      obtain ⟨i, e⟩ := h x List.mem_cons_self
      rw [List.map_cons, e]
      exact ih fun y hy => h y (List.mem_cons_of_mem _ hy)
  have h2 : PyData.canLayAll0 (D.pyA (xs.map f)) = true ∧ PyData.depthAll (D.pyA (xs.map f)) = 0 := by
    clear h1
    induction xs with
    | nil => exact ⟨rfl, rfl⟩
    | cons x xs ih =>
      obtain ⟨i, e⟩ := h x List.mem_cons_self
      obtain ⟨q1, q2⟩ := ih fun y hy => h y (List.mem_cons_of_mem _ hy)
      rw [List.map_cons, e]
      exact ⟨q1, by show max 0 (PyData.depthAll _) = 0; rw [q2]; rfl⟩
  unfold D.ok SeqAt.shaped
  rw [Bool.and_eq_true, Bool.and_eq_true]
  refine ⟨h1, h2.1, ?_⟩
  show decide (PyData.depthAll _ + 1 ≤ 64) = true
  rw [h2.2]
  rfl
theorem eqv_nil (ds : List D) : PyData.eqv (D.py (.lst ds)) (D.py (.lst [])) = ds.isEmpty := by cases ds <;> rfl
theorem ok_is_over {f : Addr} {fd : FuncData} (F : Fun K "is_over" "is_over" s_is_over f fd) (T : Tx K mg) (d_numbers_of : Dk P w K mg base 1 "numbers_of" P_numbers_of (sp_numbers_of K)) (d_try_state : Dk P w K mg base 3 "try_state" P_try_state (sp_try_state K)) : FnOk P w K mg base CX0 4 f fd P_is_over (sp_is_over K) := by
  refine F.ok sc_is_over (fun vs H Q E h => ?_) (fun cdv A outer s H vs Q E hr h => ?_)
  · obtain ⟨G, ds, r, e, ra, ⟨c, ts, kvs, tb, n, rfl, oc, ot, otb, hn, rfl⟩, q⟩ := h
    exact ra.len
  · obtain ⟨G, ds, r, e, ra, ⟨c, ts, kvs, tb, n, rfl, oc, ot, otb, hn, rfl⟩, q⟩ := h
    obtain ⟨v0, v1, v2, v3, rfl, r0, r1, r2, r3⟩ := ra.four
    refine ⟨_, (pss_cons (ps_asg (pe_ix (ix_seqK K rfl) (pv 1) (pv 3) (fun _ _ => rfl)) (pg_tup rfl (pgs_cons (pg_name (i := 4) sc_is_over.nd rfl (by first | exact Or.inl rfl | exact Or.inr rfl)) (pgs_cons (pg_name (i := 5) sc_is_over.nd rfl (by first | exact Or.inl rfl | exact Or.inr rfl)) (pgs_cons (pg_name (i := 6) sc_is_over.nd rfl (by first | exact Or.inl rfl | exact Or.inr rfl)) pgs_nil)))))
    (pss_cons (ps_if (pt_cmpR op_ge (pv 6) (pe_ix (ix_seqK K rfl) (pv 0) pe_int (fun _ _ => rfl)) (nomark _)) (pss_one (ps_ret pe_bl)) pss_nil)
    (pss_cons (ps_if (pt_cmpR (op_neK K rfl hr.units) (pe_ix (ix_seqK K rfl) (pv 0) pe_int (fun _ _ => rfl)) (pe_gS rfl T.c_FIRST) (nomark _)) (pss_one (ps_ret pe_bl)) pss_nil)
    (pss_cons (ps_if (pt_cmpR (op_eqK K rfl hr.units) (pe_fn d_try_state (hr.mono (by decide)) (by rfl) (pa_cons (pv 0) (pa_cons (pv 1) (pa_cons (pv 2) (pa_cons (pv 3) pa_nil))))) (pe_gS rfl T.c_FAILED) (nomark _)) (pss_one (ps_ret pe_bl)) pss_nil)
    (pss_cons (ps_setLc (i := 7) (own := [("one", 8)]) (g := gName 8) (tt := _) rfl sc_is_over.nd rfl rfl (sw_true rfl rfl rfl (by decide +kernel)) (pi_seqK K rfl (pe_fn d_numbers_of (hr.mono (by decide)) (by rfl) (pa_cons (pv 0) (pa_cons (pv 1) (pa_cons (pv 4) (pa_cons (pv 5) (pa_cons (pe_ix (ix_seqK K rfl) (pv 0) pe_int (fun _ _ => rfl)) pa_nil))))))) (blkOk_by (own := [("one", 8)]) (N := N_is_over) (sc := defScope s_is_over) (by decide +kernel)) (fun _ _ _ _ _ => (pg_name (i := 8) sc_is_over.nd rfl (by first | exact Or.inl rfl | exact Or.inr rfl))) (fun _ _ _ _ _ => (pts_one (pt_cmpR op_lt (pv 8) (pv 3) (nomark _)))) (fun _ _ _ _ _ => (pv 8)))
    (pss_one (ps_ret (pe_cmpR (op_neK K rfl hr.units) (pe_lc (own := [("one", 8)]) (g := gName 8) (tt := _) rfl sc_is_over.nd (pi_seqK K rfl (pv 7)) (blkOk_by (own := [("one", 8)]) (N := N_is_over) (sc := defScope s_is_over) (by decide +kernel)) (fun _ _ _ _ _ => (pg_name (i := 8) sc_is_over.nd rfl (by first | exact Or.inl rfl | exact Or.inr rfl))) (fun _ _ _ _ _ => (pts_one (pt_cmpR (op_eqK K rfl hr.units) (pe_fn d_try_state (hr.mono (by decide)) (by rfl) (pa_cons (pv 0) (pa_cons (pv 1) (pa_cons (pv 2) (pa_cons (pv 8) pa_nil))))) (pe_gS rfl T.c_PASSED) (nomark _)))) (fun _ _ _ _ _ => (pv 8))) (pe_lst pa_nil) (nomark _))))))))), ?_⟩
    try dsimp only [cxOf, Cx.nox, Cx.wish]
    have hk := try_at hn
    have hlen := ot.len
    refine q_asgT e (d := trD (tryAt ts n)) (js := [4, 5, 6]) (es := [.int (tryAt ts n).1, .int (tryAt ts n).2.1, .int (tryAt ts n).2.2]) (e_ix (d1 := trsD ts) (i := n) (by walk_at "ev") (by walk_at "ev") (at_mapL hk)) g_three fun us G1 H1 s1 ru => ?_
    obtain ⟨a4, a5, a6, rfl, q4, q5, q6⟩ := ru.three
    have r0 := r0.ex s1.g
    have r1 := r1.ex s1.g
    have r2 := r2.ex s1.g
    have r3 : Rp K G1 v3 (.int n) := r3.flat_any rfl
    show tSeq _ _ _ [some v0, some v1, some v2, some v3, some a4, some a5, some a6, none, none] _
    refine q_when (b := decide (c.fin ≤ (tryAt ts n).2.2)) s1.i (b_test (EvD.bl (e_ge (i := (tryAt ts n).2.2) (j := c.fin) (by walk_at "ev") (e_ix (d1 := c.d) (by walk_at "ev") e_int rfl)) (dec_iff Int.ofNat_le))) (fun hb G2 H2 s2 => ?_) (fun hb G2 H2 s2 => ?_)
    · refine s_ret (d := .bl (isOver c ts tb n)) s2.i ?_ fun v G3 H3 s3 r3 => q v G3 H3 ((s1.trans s2).trans s3) r3
      unfold isOver
      rw [hb]
      exact e_bl
    have r0 := r0.ex s2.g
    have r1 := r1.ex s2.g
    have r2 := r2.ex s2.g
    have r3 : Rp K G2 v3 (.int n) := r3.flat_any rfl
    have q4 : Rp K G2 a4 _ := q4.flat_any rfl
    have q5 : Rp K G2 a5 _ := q5.flat_any rfl
    have S2 := s1.trans s2
    refine q_when (b := !decide (c.rule = sFirst)) s2.i (b_test (e_ne (d1 := .str c.rule) (e_ix (d1 := c.d) (by walk_at "ev") e_int rfl) e_str rfl)) (fun hb' G3 H3 s3 => ?_) (fun hb' G3 H3 s3 => ?_)
    · refine s_ret (d := .bl (isOver c ts tb n)) s3.i ?_ fun v G4 H4 s4 r4 => q v G4 H4 ((S2.trans s3).trans s4) r4
      unfold isOver
      have z : decide (c.rule = sFirst) = false := by simpa using hb'
      rw [hb, z]
      exact e_bl
    have hb' : decide (c.rule = sFirst) = true := by simpa using hb'
    have r0 := r0.ex s3.g
    have r1 := r1.ex s3.g
    have r2 := r2.ex s3.g
    have r3 : Rp K G3 v3 (.int n) := r3.flat_any rfl
    have q4 : Rp K G3 a4 _ := q4.flat_any rfl
    have q5 : Rp K G3 a5 _ := q5.flat_any rfl
    have S3 := S2.trans s3
    refine q_when (b := decide (tSt c ts tb n = .failed)) s3.i (b_test (EvD.bl (e_eq (d1 := stD (tSt c ts tb n)) (d2 := stD .failed) (e_call (a_cons (by walk_at "ev") (a_cons (by walk_at "ev") (a_cons (by walk_at "ev") (a_one (by walk_at "ev"))))) ⟨c, ts, kvs, tb, n, rfl, oc, ot, otb, hn, rfl⟩) e_str rfl) (st_eq _ _))) (fun hb3 G4 H4 s4 => ?_) (fun hb3 G4 H4 s4 => ?_)
    · refine s_ret (d := .bl (isOver c ts tb n)) s4.i ?_ fun v G5 H5 s5 r5 => q v G5 H5 ((S3.trans s4).trans s5) r5
      unfold isOver
      rw [hb, hb', hb3]
      exact e_bl
    have r0 := r0.ex s4.g
    have r1 := r1.ex s4.g
    have r2 := r2.ex s4.g
    have r3 : Rp K G4 v3 (.int n) := r3.flat_any rfl
    have q4 : Rp K G4 a4 _ := q4.flat_any rfl
    have q5 : Rp K G4 a5 _ := q5.flat_any rfl
    have S4 := S3.trans s4
    generalize hN : numsOf ts (tryAt ts n).1 (tryAt ts n).2.1 c.fin = ns
    have hns : ∀ k ∈ ns, k < ts.length := fun k hk => by rw [← hN] at hk; exact numsOf_lt hk
    have hnl : ns.length ≤ 200 := by
      rw [← hN]
      have := List.length_filter_le (fun k => isOf (tryAt ts n).1 (tryAt ts n).2.1 c.fin (tryAt ts k)) (List.range ts.length)
      rw [List.length_range] at this
      unfold numsOf
      omega
    refine q_asg s4.i (d := .lst ((ns.filter fun k => decide (k < n)).map natD)) (EvF.toD (f_lcm (xs := ns) (Y := nth (ns.map natD)) (js := [8]) (fun _ k => [natD k]) (fun k => decide (k < n)) natD
      (i_seqL' (List.length_map _) (EvF.toD (f_call (K := K) (a_cons (by walk_at "ev") (a_cons (by walk_at "ev") (a_cons (by walk_at "ev") (a_cons (by walk_at "ev") (a_one (e_ix (d1 := c.d) (by walk_at "ev") e_int rfl)))))) ⟨c, ts, _, _, c.fin, rfl, hlen, by rw [hN]⟩)))
      (fun i x hx => by rw [nth_map hx]; exact g_name) (by omega) (fun _ _ _ => rfl) (fun us h => match us, h with | [_], _ => rfl) (fun i x hx G5 e5 us ru => ?_) (fun i x hx _ G5 e5 us ru => ?_))) fun v7 G5 H5 s5 r7 => ?_
    · obtain ⟨y, rfl, ry⟩ := ru.one
      exact b_test (EvD.bl (e_lt (i := x) (j := n) (e_var rfl ry) (e_var rfl (r3.flat_any rfl))) (dec_iff Int.ofNat_lt))
    · obtain ⟨y, rfl, ry⟩ := ru.one
      exact e_var rfl ry
    have r0 := r0.ex s5.g
    have r1 := r1.ex s5.g
    have r2 := r2.ex s5.g
    have S5 := S4.trans s5
    generalize hM : (ns.filter fun k => decide (k < n)) = ms at r7
    have hms : ∀ k ∈ ms, k < ts.length := fun k hk => by rw [← hM] at hk; exact hns k (List.mem_filter.mp hk).1
    have hml : ms.length ≤ 200 := by
      rw [← hM]
      have := List.length_filter_le (fun k => decide (k < n)) ns
      omega
    refine s_ret (d := .bl (isOver c ts tb n)) s5.i ?_ fun v G6 H6 s6 r6 => q v G6 H6 (S5.trans s6) r6
    refine EvD.bl (e_neD (d1 := .lst ((ms.filter fun k => decide (tSt c ts tb k = .passed)).map natD)) (EvF.toD (f_lcm (xs := ms) (Y := nth (ms.map natD)) (js := [8]) (fun _ k => [natD k]) (fun k => decide (tSt c ts tb k = .passed)) natD
      (i_seqL' (List.length_map _) (by walk_at "ev")) (fun i x hx => by rw [nth_map hx]; exact g_name) (by omega) (fun _ _ _ => rfl) (fun us h => match us, h with | [_], _ => rfl) (fun i x hx G6 e6 us ru => ?_) (fun i x hx _ G6 e6 us ru => ?_)))
      (EvF.toD (f_lst a_nil (by decide))) (ok_lst fun x _ => ⟨_, rfl⟩) rfl) ?_
    · obtain ⟨y, rfl, ry⟩ := ru.one
      exact b_test (EvD.bl (e_eq (d1 := stD (tSt c ts tb x)) (d2 := stD .passed) (e_call (a_cons (e_var rfl (r0.ex e6)) (a_cons (e_var rfl (r1.ex e6)) (a_cons (e_var rfl (r2.ex e6)) (a_one (e_var rfl ry))))) ⟨c, ts, kvs, tb, x, rfl, oc, ot, otb, hms x (List.mem_of_getElem? hx), rfl⟩) e_str rfl) (st_eq _ _))
    · obtain ⟨y, rfl, ry⟩ := ru.one
      exact e_var rfl ry
    · rw [eqv_nil]
      unfold isOver
      rw [hb, hb', hb3, hN, hM]
      rw [Bool.false_or, Bool.true_and, Bool.false_or]
      clear r7 hM hms hml
      induction ms with
      | nil => rfl
      | cons m ms ih =>
        rw [List.any_cons, List.filter_cons]
        cases hq : decide (tSt c ts tb m = .passed) with
        | true => rfl
        | false =>
          rw [Bool.false_or, ← ih]
          rfl

end

section
variable {P : Program} {w : World} {K : PySem.W.Frag} {mg : Str → Option Value} {base : Heap}
abbrev s_open_trials : Stmt := top 39
abbrev N_open_trials : List Str := ["contest", "tries", "table", "number", "states", "found", "begin", "g", "many", "points", "trial"]
abbrev P_open_trials : List Str := ["contest", "tries", "table", "number"]
theorem sc_open_trials : FnScope N_open_trials P_open_trials (defScope s_open_trials) := ⟨rfl, rfl, rfl, by decide +kernel, rfl, by decide +kernel, by decide +kernel⟩

/-- the trials of one group of try n that matter and aren't judged -/
def openG (gs : List (Nat × Nat)) (f : Nat → Option Bool) (g : Nat) : List Nat :=
  if gSt gs f g = .failed then [] else ((List.range (grp gs g).1).filter fun j => (f (pre gs g + j)).isNone).map fun j => pre gs g + j
def openTo (gs : List (Nat × Nat)) (f : Nat → Option Bool) (i : Nat) : List Nat := (List.range i).flatMap (openG gs f)
def openTr (c : Con) (ts : List Try) (tb : Nat → Nat → Option Bool) (n : Nat) : List Nat := if isOver c ts tb n = true then [] else openTo (gsOf c ts n) (tb n) (gsOf c ts n).length
def R_open_trials (ds : List D) (r : List D) : Prop := ∃ (c : Con) (ts : List Try) (kvs : List (List Key × V)) (tb : Nat → Nat → Option Bool) (n : Nat), ds = [c.d, trsD ts, .tab kvs, .int n] ∧ c.Ok ∧ TriesOk c ts ∧ TabOk kvs tb ∧ n < ts.length ∧ r = (openTr c ts tb n).map natD
abbrev sp_open_trials (K : PySem.W.Frag) : Sp := spF K R_open_trials
theorem openG_len (gs : List (Nat × Nat)) (f : Nat → Option Bool) (g : Nat) : (openG gs f g).length ≤ (grp gs g).1 := by
  unfold openG
  split
  · exact Nat.zero_le _
  · rw [List.length_map]
    have := List.length_filter_le (fun j => (f (pre gs g + j)).isNone) (List.range (grp gs g).1)
    rw [List.length_range] at this
    exact this
theorem openTo_succ (gs : List (Nat × Nat)) (f : Nat → Option Bool) (i : Nat) : openTo gs f (i + 1) = openTo gs f i ++ openG gs f i := by
  unfold openTo
  rw [List.range_succ, List.flatMap_append, List.flatMap_singleton]
theorem openTo_len {gs : List (Nat × Nat)} {f : Nat → Option Bool} : ∀ {i : Nat}, i ≤ gs.length → (openTo gs f i).length ≤ pre gs i
  | 0, _ => Nat.le_refl _
  | i + 1, h => by
    rw [openTo_succ, List.length_append, pre_succ (by omega)]
    have := openTo_len (gs := gs) (f := f) (i := i) (by omega)
    have := openG_len gs f i
    omega
theorem ok_open_trials {f : Addr} {fd : FuncData} (F : Fun K "open_trials" "open_trials" s_open_trials f fd) (T : Tx K mg) (d_group_states : Dk P w K mg base 2 "group_states" P_group_states (sp_group_states K)) (d_is_over : Dk P w K mg base 4 "is_over" P_is_over (sp_is_over K)) : FnOk P w K mg base CX0 5 f fd P_open_trials (sp_open_trials K) := by
  refine F.ok sc_open_trials (fun vs H Q E h => ?_) (fun cdv A outer s H vs Q E hr h => ?_)
  · obtain ⟨G, ds, r, e, ra, ⟨c, ts, kvs, tb, n, rfl, oc, ot, otb, hn, rfl⟩, q⟩ := h
    exact ra.len
  · obtain ⟨G, ds, r, e, ra, ⟨c, ts, kvs, tb, n, rfl, oc, ot, otb, hn, rfl⟩, q⟩ := h
    obtain ⟨v0, v1, v2, v3, rfl, r0, r1, r2, r3⟩ := ra.four
    refine ⟨_, (pss_cons (ps_if (pt_val (pe_fn d_is_over (hr.mono (by decide)) (by rfl) (pa_cons (pv 0) (pa_cons (pv 1) (pa_cons (pv 2) (pa_cons (pv 3) pa_nil)))))) (pss_one (ps_ret (pe_lst pa_nil))) pss_nil)
    (pss_cons (ps_set (i := 4) sc_open_trials.nd rfl (by first | exact Or.inl rfl | exact Or.inr rfl) (pe_fn d_group_states (hr.mono (by decide)) (by rfl) (pa_cons (pv 0) (pa_cons (pv 1) (pa_cons (pv 2) (pa_cons (pv 3) pa_nil))))))
    (pss_cons (ps_set (i := 5) sc_open_trials.nd rfl (by first | exact Or.inl rfl | exact Or.inr rfl) (pe_lst pa_nil))
    (pss_cons (ps_set (i := 6) sc_open_trials.nd rfl (by first | exact Or.inl rfl | exact Or.inr rfl) pe_int)
    (pss_cons (ps_for PassesOwn.never rfl (pi_enK K rfl (by rfl) T.n_enumerate (pa_cons (pe_ix (ix_seqK K rfl) (pe_ix (ix_seqK K rfl) (pe_ix (ix_seqK K rfl) (pv 0) pe_int (fun _ _ => rfl)) (pe_ix (ix_seqK K rfl) (pe_ix (ix_seqK K rfl) (pv 1) (pv 3) (fun _ _ => rfl)) pe_int (fun _ _ => rfl)) (fun _ _ => rfl)) pe_int (fun _ _ => rfl)) pa_nil)) (pg_tup rfl (pgs_cons (pg_name (i := 7) sc_open_trials.nd rfl (by first | exact Or.inl rfl | exact Or.inr rfl)) (pgs_cons (pg_tup rfl (pgs_cons (pg_name (i := 8) sc_open_trials.nd rfl (by first | exact Or.inl rfl | exact Or.inr rfl)) (pgs_cons (pg_name (i := 9) sc_open_trials.nd rfl (by first | exact Or.inl rfl | exact Or.inr rfl)) pgs_nil))) pgs_nil))) (Evl.pss_cut (ps_if (pt_cmpR (op_neK K rfl hr.units) (pe_ix (ix_seqK K rfl) (pv 4) (pv 7) (fun _ _ => rfl)) (pe_gS rfl T.c_FAILED) (nomark _)) (pss_one (ps_expr (pe_bm PySem.F.plainAttrs_list PySem.F.slot_list_extend PySem.F.type_list_extend mt_extend (pv 5) (pa_cons (pe_lc (own := [("trial", 10)]) (g := gName 10) (tt := _) rfl sc_open_trials.nd (pi_range2 (by rfl) T.n_range (pa_cons (pv 6) (pa_cons (pe_op (op_addK K rfl) (pv 6) (pv 8)) pa_nil))) (blkOk_by (own := [("trial", 10)]) (N := N_open_trials) (sc := defScope s_open_trials) (by decide +kernel)) (fun _ _ _ _ _ => (pg_name (i := 10) sc_open_trials.nd rfl (by first | exact Or.inl rfl | exact Or.inr rfl))) (fun _ _ _ _ _ => (pts_one (pt_cmp (pc_dnotin (hu_of hr) (pe_tup (pa_cons (pv 3) (pa_cons (pv 10) pa_nil))) (pv 2))))) (fun _ _ _ _ _ => (pv 10))) pa_nil)))) pss_nil)
    (pss_one (ps_set (i := 6) sc_open_trials.nd rfl (by first | exact Or.inl rfl | exact Or.inr rfl) (pe_op (op_addK K rfl) (pv 6) (pv 8))))))
    (pss_one (ps_ret (pv 5)))))))), ?_⟩
    try dsimp only [cxOf, Cx.nox, Cx.wish]
    have hk := try_at hn
    have ok := ot.at hn
    have hc := Con.task_at ok.task
    obtain ⟨o1, o2, o3, o4⟩ := Con.task_ok oc ok.task
    have o3 : (gsOf c ts n).length ≤ 4 := o3
    have hsz : sizeG (gsOf c ts n) ≤ 20 := Con.size_le20 oc ok.task
    refine q_when (b := isOver c ts tb n) e (b_B (e_call (a_cons (by walk_at "ev") (a_cons (by walk_at "ev") (a_cons (by walk_at "ev") (a_one (by walk_at "ev"))))) ⟨c, ts, kvs, tb, n, rfl, oc, ot, otb, hn, rfl⟩)) (fun hb G1 H1 s1 => ?_) (fun hb G1 H1 s1 => ?_)
    · unfold openTr at q
      rw [if_pos hb] at q
      exact s_retF (K := K) s1.i (f_lst a_nil (by decide)) fun p xs G2 H2 s2 h1 h2 h3 r => q p xs G2 H2 (s1.trans s2) (s1.pre h1) h2 h3 r
    have r0 := r0.ex s1.g
    have r1 := r1.ex s1.g
    have r2 := r2.ex s1.g
    have r3 : Rp K G1 v3 (.int n) := r3.flat_any rfl
    unfold openTr at q
    rw [if_neg (by rw [hb]; exact Bool.false_ne_true)] at q
    refine q_asg s1.i (d := .lst ((gSts (gsOf c ts n) (tb n)).map stD)) (EvF.toD (f_call (K := K) (a_cons (by walk_at "ev") (a_cons (by walk_at "ev") (a_cons (by walk_at "ev") (a_one (by walk_at "ev"))))) ⟨c, ts, kvs, tb, n, rfl, oc, ot, otb, hn, rfl⟩)) fun v4 G2 H2 s2 r4 => ?_
    have r0 := r0.ex s2.g
    have r1 := r1.ex s2.g
    have r2 := r2.ex s2.g
    have r3 : Rp K G2 v3 (.int n) := r3.flat_any rfl
    have S2 := s1.trans s2
    refine q_newL s2.i fun p H3 hp gp s3 hx => ?_
    refine q_asgC ?_
    have S3 := S2.trans s3
    have hp0 := S2.pre hp
    refine q_for (n := (gsOf c ts n).length) (js := [7, 8, 9]) (E := fun i => [.int i, .int (grp (gsOf c ts n) i).1, .int (grp (gsOf c ts n) i).2]) S3
      (i_enT' (List.length_map (f := gD)) (e_ix (d1 := tkD (c.task (tryAt ts n).2.1)) (e_ix (d1 := .tup (c.tasks.map tkD)) (i := ((tryAt ts n).2.1 : Nat)) (e_ix (d1 := c.d) (by walk_at "ev") e_int rfl)
        (e_ix (d1 := trD (tryAt ts n)) (e_ix (d1 := trsD ts) (i := n) (by walk_at "ev") (e_var rfl (r3.flat_any rfl)) (at_mapL hk)) e_int rfl) (at_mapT hc)) e_int rfl))
      (fun i hi => by rw [nth_map (grp_at hi)]; exact g_tup (g_cons g_name (g_cons g_two g_nil rfl) rfl) rfl)
      (fun i σ' G' H' => G' p = none ∧ (∃ xs, H' p = some (.lst xs) ∧ RpA K G' xs ((openTo (gsOf c ts n) (tb n) i).map natD)) ∧ ∃ w7 w8 w9 w10, σ' = [some v0, some v1, some v2, some v3, some v4, some (.ref p), some (.int (pre (gsOf c ts n) i)), w7, w8, w9, w10])
      (fun G3 H3 s3 => ⟨(s3.keep gp hx).1, ⟨_, (s3.keep gp hx).2, .nil⟩, none, none, none, none, rfl⟩) ?_ ?_
    · rintro Gw ew i hi σ' G' H' S' ew' ⟨g', ⟨xs, x', rx⟩, w7, w8, w9, w10, rfl⟩ G3 H3 us s3 ru
      obtain ⟨a, b, c', rfl, ra, rb, rc⟩ := ru.three
      cases ra
      cases rb
      have e3 : Ex G2 G3 := ew.trans (ew'.trans s3.g)
      have q2 := r2.ex e3
      have q3 : Rp K G3 v3 (.int n) := r3.flat_any rfl
      have q4 := r4.ex e3
      obtain ⟨g3, x3⟩ := s3.keep g' x'
      have hb2 := pre_mono (gs := gsOf c ts n) (a := i + 1) (b := (gsOf c ts n).length) (by omega) (Nat.le_refl _)
      rw [pre_full] at hb2
      have hb3 := pre_succ hi
      have hlo := openTo_len (gs := gsOf c ts n) (f := tb n) (i := i) (by omega)
      have hlx : xs.length = (openTo (gsOf c ts n) (tb n) i).length := by rw [rx.len, List.length_map]
      show tCut _ _ _ [some v0, some v1, some v2, some v3, some v4, some (.ref p), some (.int (pre (gsOf c ts n) i)), some (.int i), some (.int (grp (gsOf c ts n) i).1), some c', w10] _
      refine Evl.q_cut (M := fun σ2 H4 => σ2 = [some v0, some v1, some v2, some v3, some v4, some (.ref p), some (.int (pre (gsOf c ts n) i)), some (.int i), some (.int (grp (gsOf c ts n) i).1), some c', w10] ∧ ∃ G4 ys, Step G H G4 H4 ∧ Ex Gw G4 ∧ G4 p = none ∧ H4 p = some (.lst ys) ∧ RpA K G4 ys ((openTo (gsOf c ts n) (tb n) (i + 1)).map natD)) ?_ ?_
      · refine s_when (b := !decide (gSt (gsOf c ts n) (tb n) i = .failed)) s3.i (b_test (EvD.bl (e_ne (d1 := stD (gSt (gsOf c ts n) (tb n) i)) (d2 := stD .failed) (e_ix (d1 := .lst ((gSts (gsOf c ts n) (tb n)).map stD)) (i := (i : Nat)) (by walk_at "ev") (e_var rfl (.int _)) (at_mapL (gSts_at hi))) e_str rfl) (congrArg _ (st_eq _ _)))) (fun hb G4 H4 s4 => ?_) (fun hb G4 H4 s4 => ?_)
        · have hb : ¬ gSt (gsOf c ts n) (tb n) i = .failed := by simpa using hb
          have q2 := q2.ex s4.g
          obtain ⟨g4, x4⟩ := s4.keep g3 x3
          refine s_ext (ds := (openG (gsOf c ts n) (tb n) i).map natD) s4.i g4 x4 rfl (EvD.eq (EvF.toD (f_lc (n := (grp (gsOf c ts n) i).1) (js := [10]) (fun k => [.int ((pre (gsOf c ts n) i : Nat) + k)]) (fun k => (tb n (pre (gsOf c ts n) i + k)).isNone) (fun k => natD (pre (gsOf c ts n) i + k))
            (i_rng2' (i := (pre (gsOf c ts n) i : Nat)) (j := (pre (gsOf c ts n) i : Nat) + ((grp (gsOf c ts n) i).1 : Nat)) (e_var rfl (.int _)) (e_addI (e_var rfl (.int _)) (e_var rfl (.int _))) (by omega) (by omega)) (fun _ _ => g_name) (by omega) (fun _ _ => rfl)
            (fun us h => match us, h with | [_], _ => rfl) (fun k hk' G5 e5 us ru => ?_) (fun k hk' _ G5 e5 us ru => ?_))) ?_) (by rw [List.length_map]; have := openG_len (gsOf c ts n) (tb n) i; omega) fun ys G5 H5 s5 g5 ry => ?_
          · obtain ⟨y, rfl, ry⟩ := ru.one
            cases ry
            refine b_B (EvD.bl (e_dnin (ks := [.inl n, .inl ((pre (gsOf c ts n) i : Nat) + (k : Int))]) (e_tup2 (e_var rfl (q3.flat_any rfl)) (e_var rfl (.int _))) (e_var rfl (q2.ex e5)) rfl) ?_)
            have h := otb.has n (pre (gsOf c ts n) i + k)
            rw [show ([.inl (n : Int), .inl ((pre (gsOf c ts n) i : Nat) + (k : Int))] : List Key) = [.inl (n : Int), .inl ((pre (gsOf c ts n) i + k : Nat) : Int)] from rfl, h]
            cases tb n (pre (gsOf c ts n) i + k) <;> rfl
          · obtain ⟨y, rfl, ry⟩ := ru.one
            cases ry
            exact e_var rfl (.int _)
          · unfold openG pick
            rw [if_neg hb, List.map_map]
            rfl
          · refine ⟨rfl, G5, xs ++ ys, (((S'.trans s3).trans s4).trans s5).mut hp0 g5, ew'.trans (s3.g.trans (s4.g.trans s5.g)), g5, upd_same, ?_⟩
            rw [openTo_succ, List.map_append]
            exact (rx.ex ((s3.g.trans s4.g).trans s5.g)).app ry
        · have hb : gSt (gsOf c ts n) (tb n) i = .failed := by simpa using hb
          obtain ⟨g4, x4⟩ := s4.keep g3 x3
          refine ⟨rfl, G4, xs, (S'.trans s3).trans s4, ew'.trans (s3.g.trans s4.g), g4, x4, ?_⟩
          rw [openTo_succ, List.map_append]
          have z : openG (gsOf c ts n) (tb n) i = [] := by unfold openG; rw [if_pos hb]
          rw [z, List.map_nil, List.append_nil]
          exact rx.ex (s3.g.trans s4.g)
      · rintro _ H4 ⟨rfl, G4, ys, S4, ew4, g4, x4, r4⟩
        refine s_asg S4.i (d := .int (pre (gsOf c ts n) (i + 1))) (EvD.int (e_addI (e_var rfl (.int _)) (e_var rfl (.int _))) (by omega)) fun v5 G5 H5 s5 r5 => ?_
        cases r5
        obtain ⟨g5, x5⟩ := s5.keep g4 x4
        exact ⟨G5, S4.trans s5, ew4.trans s5.g, g5, ⟨_, x5, r4.ex s5.g⟩, _, _, _, _, rfl⟩
    · rintro σ' G' H' S' ew ⟨g', ⟨xs, x', rx⟩, w7, w8, w9, w10, rfl⟩
      exact ⟨_, rfl, q p xs G' H' S' hp0 g' x' rx⟩

end

section
variable {P : Program} {w : World} {K : PySem.W.Frag} {mg : Str → Option Value} {base : Heap}
abbrev s_all_open : Stmt := top 40
abbrev N_all_open : List Str := ["contest", "tries", "table", "found", "number", "trial"]
abbrev P_all_open : List Str := ["contest", "tries", "table"]
theorem sc_all_open : FnScope N_all_open P_all_open (defScope s_all_open) := ⟨rfl, rfl, rfl, by decide +kernel, rfl, by decide +kernel, by decide +kernel⟩

def prD (x : Nat × Nat) : D := .tup [.int x.1, .int x.2]
def openUpTo (c : Con) (ts : List Try) (tb : Nat → Nat → Option Bool) (i : Nat) : List (Nat × Nat) := (List.range i).flatMap fun n => (openTr c ts tb n).map fun t => (n, t)
def allOpen (c : Con) (ts : List Try) (tb : Nat → Nat → Option Bool) : List (Nat × Nat) := openUpTo c ts tb ts.length
def R_all_open (ds : List D) (r : List D) : Prop := ∃ (c : Con) (ts : List Try) (kvs : List (List Key × V)) (tb : Nat → Nat → Option Bool), ds = [c.d, trsD ts, .tab kvs] ∧ c.Ok ∧ TriesOk c ts ∧ TabOk kvs tb ∧ r = (allOpen c ts tb).map prD
abbrev sp_all_open (K : PySem.W.Frag) : Sp := spF K R_all_open
theorem openUpTo_succ (c : Con) (ts : List Try) (tb : Nat → Nat → Option Bool) (i : Nat) : openUpTo c ts tb (i + 1) = openUpTo c ts tb i ++ (openTr c ts tb i).map fun t => (i, t) := by
  unfold openUpTo
  rw [List.range_succ, List.flatMap_append, List.flatMap_singleton]
theorem openTr_len {c : Con} {ts : List Try} (oc : c.Ok) (ot : TriesOk c ts) (tb : Nat → Nat → Option Bool) {n : Nat} (h : n < ts.length) : (openTr c ts tb n).length ≤ 20 := by
  unfold openTr
  split
  · exact Nat.zero_le _
  · have h1 := openTo_len (gs := gsOf c ts n) (f := tb n) (Nat.le_refl (gsOf c ts n).length)
    have h2 : sizeG (gsOf c ts n) ≤ 20 := Con.size_le20 oc (ot.at h).task
    rw [pre_full] at h1
    omega
theorem openUpTo_len {c : Con} {ts : List Try} (oc : c.Ok) (ot : TriesOk c ts) (tb : Nat → Nat → Option Bool) : ∀ {i : Nat}, i ≤ ts.length → (openUpTo c ts tb i).length ≤ 20 * i
  | 0, _ => Nat.le_refl _
  | i + 1, h => by
    rw [openUpTo_succ, List.length_append, List.length_map]
    have h1 := openUpTo_len oc ot tb (i := i) (by omega)
    have h2 := openTr_len oc ot tb (n := i) (by omega)
    omega
theorem ok_all_open {f : Addr} {fd : FuncData} (F : Fun K "all_open" "all_open" s_all_open f fd) (T : Tx K mg) (d_open_trials : Dk P w K mg base 5 "open_trials" P_open_trials (sp_open_trials K)) : FnOk P w K mg base CX0 6 f fd P_all_open (sp_all_open K) := by
  refine F.ok sc_all_open (fun vs H Q E h => ?_) (fun cdv A outer s H vs Q E hr h => ?_)
  · obtain ⟨G, ds, r, e, ra, ⟨c, ts, kvs, tb, rfl, oc, ot, otb, rfl⟩, q⟩ := h
    exact ra.len
  · obtain ⟨G, ds, r, e, ra, ⟨c, ts, kvs, tb, rfl, oc, ot, otb, rfl⟩, q⟩ := h
    obtain ⟨v0, v1, v2, rfl, r0, r1, r2⟩ := ra.three
    refine ⟨_, (pss_cons (ps_set (i := 3) sc_all_open.nd rfl (by first | exact Or.inl rfl | exact Or.inr rfl) (pe_lst pa_nil))
    (pss_cons (ps_for PassesOwn.never rfl (pi_range1 (by rfl) T.n_range (pa_cons (pe_callB (call_lenK K rfl) (by rfl) T.n_len (by decide +kernel) (pa_cons (pv 1) pa_nil)) pa_nil)) (pg_name (i := 4) sc_all_open.nd rfl (by first | exact Or.inl rfl | exact Or.inr rfl)) (pss_one (ps_expr (pe_bm PySem.F.plainAttrs_list PySem.F.slot_list_extend PySem.F.type_list_extend mt_extend (pv 3) (pa_cons (pe_lc (own := [("trial", 5)]) (g := gName 5) (tt := tYes) rfl sc_all_open.nd (pi_seqK K rfl (pe_fn d_open_trials (hr.mono (by decide)) (by rfl) (pa_cons (pv 0) (pa_cons (pv 1) (pa_cons (pv 2) (pa_cons (pv 4) pa_nil)))))) (blkOk_by (own := [("trial", 5)]) (N := N_all_open) (sc := defScope s_all_open) (by decide +kernel)) (fun _ _ _ _ _ => (pg_name (i := 5) sc_all_open.nd rfl (by first | exact Or.inl rfl | exact Or.inr rfl))) (fun _ _ _ _ _ => pts_nil) (fun _ _ _ _ _ => (pe_tup (pa_cons (pv 4) (pa_cons (pv 5) pa_nil))))) pa_nil)))))
    (pss_one (ps_ret (pv 3))))), ?_⟩
    try dsimp only [cxOf, Cx.nox, Cx.wish]
    have hlen := ot.len
    refine q_newL e fun p H1 hp gp s1 hx => ?_
    refine q_for (n := ts.length) (js := [4]) (E := fun i => [.int i]) s1
      (i_rng1' (e_len (d := trsD ts) (by walk_at "ev") (congrArg some (List.length_map _))) (by omega)) (fun i hi => g_name)
      (fun i σ' G' H' => G' p = none ∧ (∃ xs, H' p = some (.lst xs) ∧ RpA K G' xs ((openUpTo c ts tb i).map prD)) ∧ ∃ w4 w5, σ' = [some v0, some v1, some v2, some (.ref p), w4, w5])
      (fun G3 H3 s3 => ⟨(s3.keep gp hx).1, ⟨_, (s3.keep gp hx).2, .nil⟩, none, none, rfl⟩) ?_ ?_
    · rintro Gw ew i hi σ' G' H' S' ew' ⟨g', ⟨xs, x', rx⟩, w4, w5, rfl⟩ G3 H3 us s3 ru
      obtain ⟨a, rfl, ra⟩ := ru.one
      cases ra
      have e3 : Ex G G3 := ew.trans (ew'.trans s3.g)
      obtain ⟨g3, x3⟩ := s3.keep g' x'
      have r0 := r0.ex e3
      have r1 := r1.ex e3
      have r2 := r2.ex e3
      have hlx : xs.length = (openUpTo c ts tb i).length := by rw [rx.len, List.length_map]
      have hl1 := openUpTo_len oc ot tb (i := i) (by omega)
      have hl2 := openTr_len oc ot tb hi
      refine s_ext (ds := ((openTr c ts tb i).map fun t => (i, t)).map prD) s3.i g3 x3 rfl (EvD.eq (EvF.toD (f_lcm (xs := openTr c ts tb i) (Y := nth ((openTr c ts tb i).map natD)) (js := [5]) (fun _ t => [natD t]) (fun _ => true) (fun t => prD (i, t))
        (i_seqL' (List.length_map _) (EvF.toD (f_call (K := K) (a_cons (e_var rfl r0) (a_cons (e_var rfl r1) (a_cons (e_var rfl r2) (a_one (e_var rfl (.int _)))))) ⟨c, ts, kvs, tb, i, rfl, oc, ot, otb, hi, rfl⟩)))
        (fun i x hx => by rw [nth_map hx]; exact g_name) (by omega) (fun _ _ _ => rfl) (fun us h => match us, h with | [_], _ => rfl) (fun _ _ _ _ _ _ _ => b_yes) (fun j x hx _ G4 e4 us ru => ?_))) ?_) (by rw [List.length_map, List.length_map]; omega) fun ys G4 H4 s4 g4 ry => ?_
      · obtain ⟨y, rfl, ry⟩ := ru.one
        exact e_tup2 (e_var rfl (.int _)) (e_var rfl ry)
      · rw [List.filter_eq_self.mpr (fun _ _ => rfl), List.map_map]
        rfl
      · refine ⟨G4, ((S'.trans s3).trans s4).mut hp g4, ew'.trans (s3.g.trans s4.g), g4, ⟨_, upd_same, ?_⟩, _, _, rfl⟩
        rw [openUpTo_succ, List.map_append]
        exact (rx.ex (s3.g.trans s4.g)).app ry
    · rintro σ' G' H' S' ew ⟨g', ⟨xs, x', rx⟩, w4, w5, rfl⟩
      exact ⟨_, rfl, q p xs G' H' S' hp g' x' rx⟩

end

section
variable {P : Program} {w : World} {K : PySem.W.Frag} {mg : Str → Option Value} {base : Heap}
abbrev s_matter : Stmt := top 41
abbrev N_matter : List Str := ["contest", "tries", "verdicts"]
abbrev P_matter : List Str := ["contest", "tries", "verdicts"]
theorem sc_matter : FnScope N_matter P_matter (defScope s_matter) := ⟨rfl, rfl, rfl, by decide +kernel, rfl, by decide +kernel, by decide +kernel⟩

/-- what the verdicts tell of a trial -/
def tbOf (vs : List Ver) (n t : Nat) : Option Bool := (vs.find? fun v => decide (v.1 = n ∧ v.2.1 = t)).map fun v => v.2.2
theorem verT_eq {vs : List Ver} (h : (vs.map fun v => (v.1, v.2.1)).Nodup) : verT vs = vs.map fun v => (verK v, V.bl v.2.2) := by
  unfold verT
  have key : ∀ (ws us : List Ver), (ws ++ us).map (fun v => (v.1, v.2.1)) = (ws ++ us).map (fun v => (v.1, v.2.1)) → ((ws ++ us).map fun v => (v.1, v.2.1)).Nodup → mergeT (ws.map fun v => (verK v, V.bl v.2.2)) (us.map fun v => (verK v, V.bl v.2.2)) = (ws ++ us).map fun v => (verK v, V.bl v.2.2) := by
    intro ws us
    induction us generalizing ws with
    | nil => intro _ _; rw [List.append_nil]; rfl
    | cons u us ih =>
      intro _ hn
      have hnone : valV (ws.map fun v => (verK v, V.bl v.2.2)) (verK u) = none := by
        refine valV_map_none fun x hx hxe => ?_
        rw [List.map_append, List.map_cons] at hn
        have h1 := (List.nodup_append.mp hn).2.2 (x.1, x.2.1) (List.mem_map.mpr ⟨x, hx, rfl⟩) (u.1, u.2.1) List.mem_cons_self
        exact h1 (verK_inj hxe)
      show mergeT (putK (ws.map fun v => (verK v, V.bl v.2.2)) (verK u) (.bl u.2.2)) (us.map fun v => (verK v, V.bl v.2.2)) = _
      rw [putK_new _ hnone]
      have e : (ws.map fun v => (verK v, V.bl v.2.2)) ++ [(verK u, V.bl u.2.2)] = (ws ++ [u]).map fun v => (verK v, V.bl v.2.2) := by rw [List.map_append]; rfl
      rw [e, ih (ws ++ [u]) rfl (by rw [List.append_assoc]; exact hn), List.append_assoc]
      rfl
  exact key [] vs rfl h
theorem valV_ver (vs : List Ver) (n t : Nat) : valV (vs.map fun v => (verK v, V.bl v.2.2)) [.inl n, .inl t] = (tbOf vs n t).map V.bl := by
  unfold tbOf
  induction vs with
  | nil => rfl
  | cons v vs ih =>
    rw [List.map_cons, List.find?_cons]
    by_cases h : v.1 = n ∧ v.2.1 = t
    · rw [valV_pos (by show verK v = _; rw [← h.1, ← h.2]; rfl), decide_eq_true h]
      rfl
    · rw [valV_neg (by
        intro z
        have z' : verK v = verK (n, t, true) := z
        have := verK_inj z'
        exact h ⟨congrArg Prod.fst this, congrArg Prod.snd this⟩), ih, decide_eq_false h]
theorem tab_ver {vs : List Ver} (h : (vs.map fun v => (v.1, v.2.1)).Nodup) : TabOk (verT vs) (tbOf vs) := ⟨fun n t => by rw [verT_eq h]; exact valV_ver vs n t⟩
def R_matter (ds : List D) (r : List D) : Prop := ∃ (c : Con) (ts : List Try) (vs : List Ver), ds = [c.d, trsD ts, vrsD vs] ∧ c.Ok ∧ TriesOk c ts ∧ VersOk c ts vs ∧ vs.length ≤ 100000 ∧ r = (allOpen c ts (tbOf vs)).map prD
abbrev sp_matter (K : PySem.W.Frag) : Sp := spF K R_matter
theorem ok_matter {f : Addr} {fd : FuncData} (F : Fun K "matter" "matter" s_matter f fd) (T : Tx K mg) (d_all_open : Dk P w K mg base 6 "all_open" P_all_open (sp_all_open K)) (d_need_all : Dk P w K mg base 5 "need_all" P_need_all (sp_need_all K)) (d_table_of : Dk P w K mg base 1 "table_of" P_table_of (sp_table_of K)) : FnOk P w K mg base CX0 7 f fd P_matter (sp_matter K) := by
  refine F.ok sc_matter (fun vs H Q E h => ?_) (fun cdv A outer s H vs Q E hr h => ?_)
  · obtain ⟨G, ds, r, e, ra, ⟨c, ts, vs, rfl, oc, ot, ov, hlen, rfl⟩, q⟩ := h
    exact ra.len
  · obtain ⟨G, ds, r, e, ra, ⟨c, ts, vs, rfl, oc, ot, ov, hlen, rfl⟩, q⟩ := h
    obtain ⟨v0, v1, v2, rfl, r0, r1, r2⟩ := ra.three
    refine ⟨_, (pss_cons (ps_expr (pe_fn d_need_all (hr.mono (by decide)) (by rfl) (pa_cons (pv 0) (pa_cons (pv 1) (pa_cons (pv 2) pa_nil)))))
    (pss_one (ps_ret (pe_fn d_all_open (hr.mono (by decide)) (by rfl) (pa_cons (pv 0) (pa_cons (pv 1) (pa_cons (pe_fn d_table_of (hr.mono (by decide)) (by rfl) (pa_cons (pv 2) pa_nil)) pa_nil))))))), ?_⟩
    try dsimp only [cxOf, Cx.nox, Cx.wish]
    refine q_drop e (d := .non) (e_call (a_cons (by walk_at "ev") (a_cons (by walk_at "ev") (a_one (by walk_at "ev")))) ⟨c, ts, vs, rfl, oc, ot, ov, hlen, rfl⟩) fun G1 H1 s1 => ?_
    have r0 := r0.ex s1.g
    have r1 := r1.ex s1.g
    have r2 := r2.ex s1.g
    exact s_retF s1.i (f_call (K := K) (a_cons (by walk_at "ev") (a_cons (by walk_at "ev") (a_one (e_call (a_one (by walk_at "ev")) ⟨vs, rfl, hlen, rfl⟩)))) ⟨c, ts, _, _, rfl, oc, ot, tab_ver ov.once, rfl⟩) fun p xs G2 H2 s2 h1 h2 h3 r => q p xs G2 H2 (s1.trans s2) (s1.pre h1) h2 h3 r

end

section
variable {P : Program} {w : World} {K : PySem.W.Frag} {mg : Str → Option Value} {base : Heap}
abbrev s__law_dice : Stmt := top 43
abbrev N__law_dice : List Str := ["_law_script", "_law_k", "_law_found", "_law_cell"]
abbrev P__law_dice : List Str := ["_law_script", "_law_k"]
theorem sc__law_dice : FnScope N__law_dice P__law_dice (defScope s__law_dice) := ⟨rfl, rfl, rfl, by decide +kernel, rfl, by decide +kernel, by decide +kernel⟩

def sp__law_dice (K : PySem.W.Frag) : Sp := fun vs H Q _ => ∃ (a : Addr) (ns : List Int), vs = [.ref a, .int 0] ∧ SqL K H a (ns.map V.int) ∧ ns.length ≤ 63 ∧
  ∀ p ms H', H p = none → Ex H H' → H' p = some (.lst (ms.map V.int)) → DOk ms → Q (.ref p) H'
theorem ok__law_dice {f : Addr} {fd : FuncData} (F : Fun K "_law_dice" "_law_dice" s__law_dice f fd) (T : Tx K mg) : FnOk P w K mg base CX0 1 f fd P__law_dice (sp__law_dice K) := by
  refine F.ok sc__law_dice (fun vs H Q E h => ?_) (fun cdv A outer s H vs Q E hr h => ?_)
  · obtain ⟨a, ns, rfl, _⟩ := h
    rfl
  · obtain ⟨a, ns, rfl, hs, hl, q⟩ := h
    refine ⟨_, (pss_cons (ps_set (i := 2) sc__law_dice.nd rfl (by first | exact Or.inl rfl | exact Or.inr rfl) (pv 1))
    (pss_cons (ps_for PassesOwn.never rfl (pi_seqK K rfl (pv 0)) (pg_name (i := 3) sc__law_dice.nd rfl (by first | exact Or.inl rfl | exact Or.inr rfl)) (pss_one (ps_set (i := 2) sc__law_dice.nd rfl (by first | exact Or.inl rfl | exact Or.inr rfl) (pe_op op_mod (pe_op (op_addK K rfl) (pe_op op_mulA (pv 2) pe_int) (pe_callB call_abs (by rfl) T.n_abs (by decide +kernel) (pa_cons (pv 3) pa_nil))) pe_int))))
    (pss_one (ps_ret (pe_op (op_addK K rfl) (pe_lst (pa_cons (pv 2) (pa_cons pe_int pa_nil))) (pe_lc (own := [("_law_cell", 3)]) (g := gName 3) (tt := _) rfl sc__law_dice.nd (pi_seqK K rfl (pv 0)) (blkOk_by (own := [("_law_cell", 3)]) (N := N__law_dice) (sc := defScope s__law_dice) (by decide +kernel)) (fun _ _ _ _ _ => (pg_name (i := 3) sc__law_dice.nd rfl (by first | exact Or.inl rfl | exact Or.inr rfl))) (fun _ _ _ _ _ => (pts_one (pt_cmpR op_ge (pv 3) (pe_op op_pow pe_int pe_int) (nomark _)))) (fun _ _ _ _ _ => (pv 3)))))))), ?_⟩
    try dsimp only [cxOf, Cx.nox, Cx.wish]
    refine q_asg (K := K) (d := .int 0) (Ex.refl H) (e_var rfl (.int _)) fun v G1 H1 s1 r1 => ?_
    cases r1
    refine q_for (K := K) (n := ns.length) (js := [3]) (E := fun i => [nth (ns.map D.int) i]) s1 (i_script (q := a) rfl (ex_l s1.g hs)) (fun i hi => g_name)
      (fun i σ' G' H' => ∃ (z : Int) (w9 : Option V), σ' = [some (.ref a), some (.int 0), some (.int z), w9] ∧ 0 ≤ z ∧ z < 2147483647) (fun G2 H2 s2 => ⟨0, none, rfl, by decide, by decide⟩) ?_ ?_
    · rintro Gw ew i hi σ' G' H' S' ew' ⟨z, w', rfl, h0, h1⟩ G2 H2 us s2 ru
      rw [nth_map (List.getElem?_eq_getElem hi)] at ru
      obtain ⟨b, rfl, rb⟩ := ru.one
      cases rb
      refine s_asg s2.i (d := .int ((z * 31 + (if ns[i] < 0 then -ns[i] else ns[i])) % 2147483647)) (e_mod (e_addI (e_mulI (e_var rfl (.int _)) e_int (.inl ⟨by omega, by omega⟩)) (e_abs (e_var rfl (.int _)))) e_int (by decide)) fun v3 G3 H3 s3 r3 => ?_
      cases r3
      exact ⟨G3, (S'.trans s2).trans s3, ew'.trans (s2.g.trans s3.g), _, _, rfl, Int.emod_nonneg _ (by decide), Int.emod_lt_of_pos _ (by decide)⟩
    · rintro σ' G' H' S' ew ⟨z, w', rfl, h0, h1⟩
      have hs' := ex_l S'.g hs
      refine s_retF (K := K) (ds := (z :: 0 :: ns.filter fun n => decide ((10 : Int) ^ (18 : Int).toNat ≤ n)).map D.int) S'.i (EvF.eq (f_cat (ds := [.int z, .int 0]) (EvF.toD (f_lst (a_cons (e_var rfl (.int _)) (a_one e_int)) (by show 2 ≤ 100000; decide)))
        (EvF.toD (f_lcm (xs := ns) (Y := nth (ns.map D.int)) (js := [3]) (fun _ n => [.int n]) (fun n => decide ((10 : Int) ^ (18 : Int).toNat ≤ n)) D.int (i_script (q := a) rfl hs') (fun i x hx => by rw [nth_map hx]; exact g_name) (by omega) (fun _ _ _ => rfl)
          (fun us h => match us, h with | [_], _ => rfl) (fun i x hx G2 e2 us ru => ?_) (fun i x hx _ G2 e2 us ru => ?_))) ?_) rfl) fun p xs G2 H2 s2 h2 h3 h4 r2 => ?_
      · obtain ⟨y, rfl, ry⟩ := ru.one
        exact b_test (e_ge (e_var rfl ry) (e_pow e_int e_int ⟨by decide, by decide, by decide⟩))
      · obtain ⟨y, rfl, ry⟩ := ru.one
        exact e_var rfl ry
      · have := List.length_filter_le (fun n => decide ((10 : Int) ^ (18 : Int).toNat ≤ n)) ns
        rw [List.length_map]
        show 2 + _ ≤ _
        omega
      · have hxs := r2.ints
        subst hxs
        refine q p _ H2 (S'.pre h2) (S'.h.trans s2.h) h4 ⟨z, 0, _, rfl, ⟨h0, h1⟩, Int.le_refl _, fun x hx => ?_, ?_⟩
        · have := of_decide_eq_true (List.mem_filter.mp hx).2
          have h18 : (0 : Int) ≤ (10 : Int) ^ (18 : Int).toNat := by decide
          omega
        · have := List.length_filter_le (fun n => decide ((10 : Int) ^ (18 : Int).toNat ≤ n)) ns
          omega

end

section
variable {P : Program} {w : World} {K : PySem.W.Frag} {mg : Str → Option Value} {base : Heap}
abbrev s__law_off : Stmt := top 44
abbrev N__law_off : List Str := ["_law_d", "_law_most", "_law_found"]
abbrev P__law_off : List Str := ["_law_d", "_law_most"]
theorem sc__law_off : FnScope N__law_off P__law_off (defScope s__law_off) := ⟨rfl, rfl, rfl, by decide +kernel, rfl, by decide +kernel, by decide +kernel⟩

abbrev sp__law_off (K : PySem.W.Frag) : Sp := spR K Pre_off R_off
theorem DOk.step {a b : Int} {rest : List Int} (a0 : 0 ≤ a ∧ a < 2147483647) (b0 : 0 ≤ b) (r0 : ∀ x ∈ rest, 0 ≤ x) (rl : rest.length ≤ 63) : DOk (a :: b :: rest) := ⟨a, b, rest, rfl, a0, b0, r0, rl⟩
theorem ok__law_off {f : Addr} {fd : FuncData} (F : Fun K "_law_off" "_law_off" s__law_off f fd) (T : Tx K mg) : FnOk P w K mg base CX0 1 f fd P__law_off (sp__law_off K) := by
  refine F.ok sc__law_off (fun vs H Q E h => ?_) (fun cdv A outer s H vs Q E hr h => ?_)
  · obtain ⟨p, ws, G, ds, rfl, e, g, dc, ra, ⟨m, rfl, _⟩, _⟩ := h
    have := ra.len
    show _ + 1 = 2
    rw [this]
    rfl
  · obtain ⟨p, ws, G, ds, rfl, e, g, ⟨ms, hm, a, b, rest, rfl, a0, b0, r0, rl⟩, ra, ⟨m, rfl, m0, m1⟩, q⟩ := h
    obtain ⟨v1, rfl, rv⟩ := ra.one
    cases rv
    refine ⟨_, (Evl.pss_cut (ps_if (PW.pt (pw_and (pt_cmpR (op_eqK K rfl hr.units) (pe_ix (ix_seqK K rfl) (pv 0) pe_int (fun _ _ => rfl)) pe_int (nomark _)) (pw_and1 (pt_cmpR op_gt (pe_callB (call_lenK K rfl) (by rfl) T.n_len (by decide +kernel) (pa_cons (pv 0) pa_nil)) pe_int (nomark _))))) (pss_one (ps_asg (pe_bm PySem.F.plainAttrs_list PySem.F.slot_list_pop PySem.F.type_list_pop mt_popAt (pv 0) (pa_cons pe_int pa_nil)) (pg_sub (pv 0) pe_int set_list))) pss_nil)
    (pss_cons (ps_if (pt_cmpR op_gt (pe_ix (ix_seqK K rfl) (pv 0) pe_int (fun _ _ => rfl)) pe_int (nomark _)) (pss_cons (ps_set (i := 2) sc__law_off.nd rfl (by first | exact Or.inl rfl | exact Or.inr rfl) (pe_op op_mod (pe_ix (ix_seqK K rfl) (pv 0) pe_int (fun _ _ => rfl)) (pv 1)))
    (pss_cons (ps_asg (pe_op op_fdiv (pe_ix (ix_seqK K rfl) (pv 0) pe_int (fun _ _ => rfl)) (pv 1)) (pg_sub (pv 0) pe_int set_list))
    (pss_one (ps_ret (pv 2))))) pss_nil)
    (pss_cons (ps_asg (pe_op op_mod (pe_op (op_addK K rfl) (pe_op op_mulA (pe_ix (ix_seqK K rfl) (pv 0) pe_int (fun _ _ => rfl)) pe_int) pe_int) pe_int) (pg_sub (pv 0) pe_int set_list))
    (pss_one (ps_ret (pe_op op_mod (pe_op op_fdiv (pe_ix (ix_seqK K rfl) (pv 0) pe_int (fun _ _ => rfl)) pe_int) (pv 1))))))), ?_⟩
    try dsimp only [cxOf, Cx.nox, Cx.wish]
    have rp : ∀ (G : Hp) (ms : List Int), Rp K (upd G p (.lst (ms.map V.int))) (.ref p) (.lst (ms.map D.int)) := fun G ms => .lst upd_same RpA.of_ints
    refine Evl.q_cut (M := fun σ' H1 => σ' = [some (.ref p), some (.int m), none] ∧ ∃ (b' : Int) (rest' : List Int) (G1 : Hp), Step G (hide p H) G1 H1 ∧ G1 p = none ∧ H1 p = some (.lst ((a :: b' :: rest').map V.int)) ∧ 0 ≤ b' ∧ (∀ x ∈ rest', 0 ≤ x) ∧ rest'.length ≤ 63) ?_ ?_
    · refine s_ifO (b := decide (b = 0) && decide ((2 : Int) < ((a :: b :: rest).length : Nat))) e g hm (b_and (b_test (e_eq (d1 := .int b) (e_ix (d1 := .lst ((a :: b :: rest).map D.int)) (e_var rfl (rp _ _)) e_int (at_mapL (k := 1) rfl)) e_int rfl)) fun _ =>
        b_test (e_gt (e_len (d := .lst ((a :: b :: rest).map D.int)) (e_var rfl (rp _ _)) (congrArg some (List.length_map _))) e_int)) (fun hb G1 H1 s1 g1 x1 => ?_) (fun hb G1 H1 s1 g1 x1 => ?_)
      · obtain ⟨hb0, hb1⟩ := (Bool.and_eq_true _ _).mp hb
        have hl : 2 < (a :: b :: rest).length := by have := of_decide_eq_true hb1; omega
        cases rest with
        | nil => exact absurd hl (by show ¬ 2 < 2; omega)
        | cons c rest =>
          have hi2 : ixN ((a :: b :: c :: rest).map V.int).length 2 = some 2 := Evl.ixN_nat (j := 2) (by rw [List.length_map]; exact hl)
          refine ⟨_, rfl, .inl ⟨rfl, _, .of x1⟩, p, _, 2, 2, .int c, rfl, rfl, x1, by decide, by decide, (ixN_seq hi2).1, rfl, _, rfl, p, _, 1, 1, rfl, rfl, upd_same, Evl.ixN_nat (j := 1) (by simp), ?_⟩
          rw [upd_upd]
          refine ⟨rfl, c, rest, G1, ((s1.toR g ⟨_, hm, DOk.step a0 b0 r0 rl⟩).1).mut hide_p g1, g1, upd_same, r0 c List.mem_cons_self, fun x hx => r0 x (List.mem_cons_of_mem _ hx), ?_⟩
          rw [List.length_cons] at rl
          omega
      · exact ⟨rfl, b, rest, G1, (s1.toR g ⟨_, hm, DOk.step a0 b0 r0 rl⟩).1, g1, x1, b0, r0, rl⟩
    · rintro σ' H1 ⟨rfl, b', rest', G1, S1, g1, x1, hb0, hr0, hrl⟩
      have dc1 : DOk (a :: b' :: rest') := DOk.step a0 hb0 hr0 hrl
      refine q_whenO (b := decide ((0 : Int) < b')) S1.i g1 x1 (b_test (e_gt (i := b') (e_ix (d1 := .lst ((a :: b' :: rest').map D.int)) (e_var rfl (rp _ _)) e_int (at_mapL (k := 1) rfl)) e_int)) (fun hb G2 H2 s2 g2 x2 => ?_) (fun hb G2 H2 s2 g2 x2 => ?_)
      · have S2 := S1.transR (s2.toR g1 ⟨_, x1, dc1⟩).1
        refine q_asgO (K := K) (d := .int (b' % (m : Int))) s2.i g2 x2 (e_mod (e_ix (d1 := .lst ((a :: b' :: rest').map D.int)) (e_var rfl (rp _ _)) e_int (at_mapL (k := 1) rfl)) (e_var rfl (.int _)) (by omega)) rfl fun v G3 H3 s3 g3 x3 r3 => ?_
        cases r3
        have S3 := S2.transR (s3.toR g2 ⟨_, x2, dc1⟩).1
        refine q_setO (K := K) (j := 1) (d := .int (b' / (m : Int))) s3.i g3 x3 rfl (e_fdiv (e_ix (d1 := .lst ((a :: b' :: rest').map D.int)) (e_var rfl (rp _ _)) e_int (at_mapL (k := 1) rfl)) (e_var rfl (.int _)) ⟨by omega, by omega⟩) rfl (by rw [List.length_map]; show 1 < _ + 2; omega) fun G4 H4 s4 g4 => ?_
        have S4 := (S3.transR (s4.toR g3 ⟨_, x3, dc1⟩).1).mut (o := .lst ((a :: (b' / (m : Int)) :: rest').map V.int)) hide_p g4
        refine ⟨_, rfl, q _ (.int (b' % (m : Int))) G4 _ S4 g4 ⟨_, upd_same, DOk.step a0 (Int.ediv_nonneg hb0 (by omega)) hr0 hrl⟩ ⟨m, rfl, (b' % (m : Int)).toNat, ?_, ?_⟩ (.int _)⟩
        · have := Int.emod_nonneg b' (show (m : Int) ≠ 0 by omega)
          exact congrArg D.int (by omega)
        · have h1 := Int.emod_nonneg b' (show (m : Int) ≠ 0 by omega)
          have h2 := Int.emod_lt_of_pos b' (show (0 : Int) < m by omega)
          omega
      · have S2 := S1.transR (s2.toR g1 ⟨_, x1, dc1⟩).1
        generalize hz : (a * 48271 + 11) % 2147483647 = z
        refine q_setO (K := K) (j := 0) (d := .int z) s2.i g2 x2 rfl (EvD.int (e_mod (e_addI (e_mulI (i := a) (e_ix (d1 := .lst ((a :: b' :: rest').map D.int)) (e_var rfl (rp _ _)) e_int (at_mapL (k := 0) rfl)) e_int (.inl ⟨by omega, by omega⟩)) e_int) e_int (by decide)) hz) rfl (by rw [List.length_map]; show 0 < _ + 2; omega) fun G3 H3 s3 g3 => ?_
        have z0 : 0 ≤ z ∧ z < 2147483647 := by
          rw [← hz]
          exact ⟨Int.emod_nonneg _ (by decide), Int.emod_lt_of_pos _ (by decide)⟩
        have S3 := (S2.transR (s3.toR g2 ⟨_, x2, dc1⟩).1).mut (o := .lst ((z :: b' :: rest').map V.int)) hide_p g3
        have dc3 : DOk (z :: b' :: rest') := DOk.step z0 hb0 hr0 hrl
        refine s_retO (K := K) (o := .lst ((z :: b' :: rest').map V.int)) (d := .int (z / 64 % (m : Int))) S3.i g3 upd_same (e_mod (e_fdiv (e_ix (d1 := .lst ((z :: b' :: rest').map D.int)) (e_var rfl (rp _ _)) e_int (at_mapL (k := 0) rfl)) e_int ⟨by decide, by decide⟩) (e_var rfl (.int _)) (by omega)) rfl fun v G4 H4 s4 g4 x4 r4 => ?_
        refine q v _ G4 H4 (S3.transR (s4.toR g3 ⟨_, upd_same, dc3⟩).1) g4 ⟨_, x4, dc3⟩ ⟨m, rfl, (z / 64 % (m : Int)).toNat, ?_, ?_⟩ r4
        · have := Int.emod_nonneg (z / 64) (show (m : Int) ≠ 0 by omega)
          exact congrArg D.int (by omega)
        · have h1 := Int.emod_nonneg (z / 64) (show (m : Int) ≠ 0 by omega)
          have h2 := Int.emod_lt_of_pos (z / 64) (show (0 : Int) < m by omega)
          omega

end

section
variable {P : Program} {w : World} {K : PySem.W.Frag} {mg : Str → Option Value} {base : Heap}
abbrev s__law_alike : Stmt := top 45
abbrev N__law_alike : List Str := ["_law_found", "_law_due", "_law_k"]
abbrev P__law_alike : List Str := ["_law_found", "_law_due"]
theorem sc__law_alike : FnScope N__law_alike P__law_alike (defScope s__law_alike) := ⟨rfl, rfl, rfl, by decide +kernel, rfl, by decide +kernel, by decide +kernel⟩

/-- data of at most n levels -/
inductive Fit : Nat → D → Prop
  | non {n : Nat} : Fit (n + 1) .non
  | bl {n : Nat} (b : Bool) : Fit (n + 1) (.bl b)
  | int {n : Nat} (i : Int) : Fit (n + 1) (.int i)
  | str {n : Nat} (s : Str) : Fit (n + 1) (.str s)
  | tup {n : Nat} {ds : List D} (hl : ds.length ≤ 1000000) (h : ∀ d ∈ ds, Fit n d) : Fit (n + 1) (.tup ds)
  | lst {n : Nat} {ds : List D} (hl : ds.length ≤ 1000000) (h : ∀ d ∈ ds, Fit n d) : Fit (n + 1) (.lst ds)
def R_alike (n : Nat) (ds : List D) (r : D) : Prop := ∃ d, ds = [d, d] ∧ Fit n d ∧ r = .bl true
abbrev sp__law_alike (n : Nat) (K : PySem.W.Frag) : Sp := spP K (R_alike n)
theorem ok__law_alike {f : Addr} {fd : FuncData} (F : Fun K "_law_alike" "_law_alike" s__law_alike f fd) (T : Tx K mg) (b : Binds K fd P__law_alike []) (m : mg "_law_alike" = some (.ref f)) : ∀ n, FnOk P w K mg base CX0 n f fd P__law_alike (sp__law_alike n K)
  | 0 => ⟨fun vs H Q E h => (by
      obtain ⟨G, ds, r, e, ra, ⟨d, rfl, hf, _⟩, q⟩ := h
      cases hf), fun A outer s H args us vs Q E hr h1 h2 h3 h => (by
      obtain ⟨G, ds, r, e, ra, ⟨d, rfl, hf, _⟩, q⟩ := h
      cases hf)⟩
  | n + 1 => by
    have d__law_alike : Dk P w K mg base n "_law_alike" P__law_alike (sp__law_alike n K) := ⟨f, fd, ok__law_alike F T b m n, b, m, F.kp⟩
    refine F.ok sc__law_alike (fun vs H Q E h => ?_) (fun cdv A outer s H vs Q E hr h => ?_)
    · obtain ⟨G, ds, r, e, ra, ⟨d, rfl, hf, _⟩, q⟩ := h
      exact ra.len
    · obtain ⟨G, ds, r, e, ra, ⟨d, rfl, hf, rfl⟩, q⟩ := h
      obtain ⟨v0, v1, rfl, r0, r1⟩ := ra.two
      refine ⟨_, (pss_cons (ps_if (pt_cmpR op_isN (pv 1) pe_non (nomark _)) (pss_one (ps_ret (pe_cmpR op_isN (pv 0) pe_non (nomark _)))) pss_nil)
    (pss_cons (ps_if (pt_val (pe_callB (call_isiK' K rfl) (by rfl) T.n_isinstance (by decide +kernel) (pa_cons (pv 1) (pa_cons (pe_ty (n := "bool") (by rfl) T.n_bool (by decide +kernel)) pa_nil)))) (pss_one (ps_ret (pe_and (pe_callB (call_isiK' K rfl) (by rfl) T.n_isinstance (by decide +kernel) (pa_cons (pv 0) (pa_cons (pe_ty (n := "bool") (by rfl) T.n_bool (by decide +kernel)) pa_nil))) (pe_one (pe_cmpR (op_eqK K rfl hr.units) (pv 0) (pv 1) (nomark _)))))) pss_nil)
    (pss_cons (ps_if (pt_val (pe_callB (call_isiK' K rfl) (by rfl) T.n_isinstance (by decide +kernel) (pa_cons (pv 1) (pa_cons (pe_ty (n := "int") (by rfl) T.n_int (by decide +kernel)) pa_nil)))) (pss_one (ps_ret (pe_and (pe_callB (call_isiK' K rfl) (by rfl) T.n_isinstance (by decide +kernel) (pa_cons (pv 0) (pa_cons (pe_ty (n := "int") (by rfl) T.n_int (by decide +kernel)) pa_nil))) (pe_and (pe_not (pe_callB (call_isiK' K rfl) (by rfl) T.n_isinstance (by decide +kernel) (pa_cons (pv 0) (pa_cons (pe_ty (n := "bool") (by rfl) T.n_bool (by decide +kernel)) pa_nil)))) (pe_one (pe_cmpR (op_eqK K rfl hr.units) (pv 0) (pv 1) (nomark _))))))) pss_nil)
    (pss_cons (ps_if (pt_val (pe_callB (call_isiK' K rfl) (by rfl) T.n_isinstance (by decide +kernel) (pa_cons (pv 1) (pa_cons (pe_ty (n := "str") (by rfl) T.n_str (by decide +kernel)) pa_nil)))) (pss_one (ps_ret (pe_and (pe_callB (call_isiK' K rfl) (by rfl) T.n_isinstance (by decide +kernel) (pa_cons (pv 0) (pa_cons (pe_ty (n := "str") (by rfl) T.n_str (by decide +kernel)) pa_nil))) (pe_one (pe_cmpR (op_eqK K rfl hr.units) (pv 0) (pv 1) (nomark _)))))) pss_nil)
    (pss_cons (ps_if (PW.pt (pw_or (pt_cmpR (op_neK K rfl hr.units) (pe_callB (call_isiK' K rfl) (by rfl) T.n_isinstance (by decide +kernel) (pa_cons (pv 1) (pa_cons (pe_ty (n := "tuple") (by rfl) T.n_tuple (by decide +kernel)) pa_nil))) (pe_callB (call_isiK' K rfl) (by rfl) T.n_isinstance (by decide +kernel) (pa_cons (pv 0) (pa_cons (pe_ty (n := "tuple") (by rfl) T.n_tuple (by decide +kernel)) pa_nil))) (nomark _)) (pw_or1 (pt_cmpR (op_neK K rfl hr.units) (pe_callB (call_isiK' K rfl) (by rfl) T.n_isinstance (by decide +kernel) (pa_cons (pv 1) (pa_cons (pe_ty (n := "list") (by rfl) T.n_list (by decide +kernel)) pa_nil))) (pe_callB (call_isiK' K rfl) (by rfl) T.n_isinstance (by decide +kernel) (pa_cons (pv 0) (pa_cons (pe_ty (n := "list") (by rfl) T.n_list (by decide +kernel)) pa_nil))) (nomark _))))) (pss_one (ps_ret pe_bl)) pss_nil)
    (pss_cons (ps_if (pt_cmpR (op_neK K rfl hr.units) (pe_callB (call_lenK K rfl) (by rfl) T.n_len (by decide +kernel) (pa_cons (pv 0) pa_nil)) (pe_callB (call_lenK K rfl) (by rfl) T.n_len (by decide +kernel) (pa_cons (pv 1) pa_nil)) (nomark _)) (pss_one (ps_ret pe_bl)) pss_nil)
    (pss_one (ps_ret (pe_callB (cr_allK K rfl rfl) (by rfl) T.n_all (by decide +kernel) (pa_cons (pe_lc (own := [("_law_k", 2)]) (g := gName 2) (tt := tYes) rfl sc__law_alike.nd (pi_range1 (by rfl) T.n_range (pa_cons (pe_callB (call_lenK K rfl) (by rfl) T.n_len (by decide +kernel) (pa_cons (pv 1) pa_nil)) pa_nil)) (blkOk_by (own := [("_law_k", 2)]) (N := N__law_alike) (sc := defScope s__law_alike) (by decide +kernel)) (fun _ _ _ _ _ => (pg_name (i := 2) sc__law_alike.nd rfl (by first | exact Or.inl rfl | exact Or.inr rfl))) (fun _ _ _ _ _ => pts_nil) (fun _ _ _ _ _ => (pe_fn d__law_alike hr (by rfl) (pa_cons (pe_ix (ix_seqK K rfl) (pv 0) (pv 2) (fun _ _ => rfl)) (pa_cons (pe_ix (ix_seqK K rfl) (pv 1) (pv 2) (fun _ _ => rfl)) pa_nil))))) pa_nil)))))))))), ?_⟩
      try dsimp only [cxOf, Cx.nox, Cx.wish]
      cases hf with
      | non =>
        refine q_when (b := true) e (b_test (e_isN (e_var rfl r1) rfl)) (fun _ G1 H1 s1 => ?_) (fun z => nomatch z)
        exact s_ret s1.i (e_isN (e_var rfl (r0.ex s1.g)) rfl) fun v G2 H2 s2 r2 => q v G2 H2 (s1.trans s2) r2
      | bl x =>
        refine q_no e (b_test (e_isN (e_var rfl r1) rfl)) fun G1 H1 s1 => ?_
        have S1 := s1
        have r0 := r0.ex s1.g
        have r1 := r1.ex s1.g
        refine q_when (b := true) S1.i (b_B (e_isi (e_var rfl r1) rfl rfl)) (fun _ G2 H2 s2 => ?_) (fun z => nomatch z)
        have S2 := S1.trans s2
        have r0 := r0.ex s2.g
        have r1 := r1.ex s2.g
        exact s_ret S2.i (e_andT (e_isi (e_var rfl r0) rfl rfl) (EvD.bl (e_eq (e_var rfl r0) (e_var rfl r1) rfl) (decide_eq_true rfl))) fun v G9 H9 s9 r9 => q v G9 H9 (S2.trans s9) r9
      | int x =>
        refine q_no e (b_test (e_isN (e_var rfl r1) rfl)) fun G1 H1 s1 => ?_
        have S1 := s1
        have r0 := r0.ex s1.g
        have r1 := r1.ex s1.g
        refine q_no S1.i (b_B (e_isi (e_var rfl r1) rfl rfl)) fun G2 H2 s2 => ?_
        have S2 := S1.trans s2
        have r0 := r0.ex s2.g
        have r1 := r1.ex s2.g
        refine q_when (b := true) S2.i (b_B (e_isi (e_var rfl r1) rfl rfl)) (fun _ G3 H3 s3 => ?_) (fun z => nomatch z)
        have S3 := S2.trans s3
        have r0 := r0.ex s3.g
        have r1 := r1.ex s3.g
        exact s_ret S3.i (e_andT (e_isi (e_var rfl r0) rfl rfl) (e_andT (EvD.bl (e_not (a := false) (e_isi (e_var rfl r0) rfl rfl)) rfl) (EvD.bl (e_eq (e_var rfl r0) (e_var rfl r1) rfl) (decide_eq_true rfl)))) fun v G9 H9 s9 r9 => q v G9 H9 (S3.trans s9) r9
      | str x =>
        refine q_no e (b_test (e_isN (e_var rfl r1) rfl)) fun G1 H1 s1 => ?_
        have S1 := s1
        have r0 := r0.ex s1.g
        have r1 := r1.ex s1.g
        refine q_no S1.i (b_B (e_isi (e_var rfl r1) rfl rfl)) fun G2 H2 s2 => ?_
        have S2 := S1.trans s2
        have r0 := r0.ex s2.g
        have r1 := r1.ex s2.g
        refine q_no S2.i (b_B (e_isi (e_var rfl r1) rfl rfl)) fun G3 H3 s3 => ?_
        have S3 := S2.trans s3
        have r0 := r0.ex s3.g
        have r1 := r1.ex s3.g
        refine q_when (b := true) S3.i (b_B (e_isi (e_var rfl r1) rfl rfl)) (fun _ G4 H4 s4 => ?_) (fun z => nomatch z)
        have S4 := S3.trans s4
        have r0 := r0.ex s4.g
        have r1 := r1.ex s4.g
        exact s_ret S4.i (e_andT (e_isi (e_var rfl r0) rfl rfl) (EvD.bl (e_eq (e_var rfl r0) (e_var rfl r1) rfl) (decide_eq_true rfl))) fun v G9 H9 s9 r9 => q v G9 H9 (S4.trans s9) r9
      | tup hl h =>
        rename_i ds
        refine q_no e (b_test (e_isN (e_var rfl r1) rfl)) fun G1 H1 s1 => ?_
        have S1 := s1
        have r0 := r0.ex s1.g
        have r1 := r1.ex s1.g
        refine q_no S1.i (b_B (e_isi (e_var rfl r1) rfl rfl)) fun G2 H2 s2 => ?_
        have S2 := S1.trans s2
        have r0 := r0.ex s2.g
        have r1 := r1.ex s2.g
        refine q_no S2.i (b_B (e_isi (e_var rfl r1) rfl rfl)) fun G3 H3 s3 => ?_
        have S3 := S2.trans s3
        have r0 := r0.ex s3.g
        have r1 := r1.ex s3.g
        refine q_no S3.i (b_B (e_isi (e_var rfl r1) rfl rfl)) fun G4 H4 s4 => ?_
        have S4 := S3.trans s4
        have r0 := r0.ex s4.g
        have r1 := r1.ex s4.g
        refine q_no S4.i (b_orF (b_test (EvD.bl (e_ne (d1 := .bl true) (d2 := .bl true) (e_isi (e_var rfl r1) rfl rfl) (e_isi (e_var rfl r0) rfl rfl) rfl) rfl)) (b_test (EvD.bl (e_ne (d1 := .bl false) (d2 := .bl false) (e_isi (e_var rfl r1) rfl rfl) (e_isi (e_var rfl r0) rfl rfl) rfl) rfl))) fun G5 H5 s5 => ?_
        have S5 := S4.trans s5
        have r0 := r0.ex s5.g
        have r1 := r1.ex s5.g
        refine q_no S5.i (b_test (EvD.bl (e_ne (e_len (e_var rfl r0) rfl) (e_len (e_var rfl r1) rfl) rfl) (congrArg not (decide_eq_true rfl)))) fun G6 H6 s6 => ?_
        have S6 := S5.trans s6
        have r0 := r0.ex s6.g
        have r1 := r1.ex s6.g
        refine s_ret S6.i (EvD.bl (e_all (bs := List.replicate ds.length true) (EvF.toD (f_lc (n := ds.length) (js := [2]) (fun i => [.int i]) (fun _ => true) (fun _ => .bl true) (i_rng1' (e_len (e_var rfl r1) rfl) hl) (fun _ _ => g_name) hl (fun _ _ => rfl) (fun us h => match us, h with | [_], _ => rfl) (fun _ _ _ _ _ _ => b_yes) (fun i hi _ G7 e7 us ru => ?_))) ?_) ?_) fun v G9 H9 s9 r9 => q v G9 H9 (S6.trans s9) r9
        · obtain ⟨w, rfl, rw⟩ := ru.one
          cases rw
          have hd : D.at (.tup ds) (i : Int) = some ds[i] := atI_nat (List.getElem?_eq_getElem hi)
          exact e_call (a_cons (e_ix (e_var rfl (r0.ex e7)) (e_var rfl (.int _)) hd) (a_one (e_ix (e_var rfl (r1.ex e7)) (e_var rfl (.int _)) hd))) ⟨_, rfl, h _ (List.getElem_mem hi), rfl⟩
        · unfold pick
          rw [List.filter_eq_self.mpr (fun _ _ => rfl), List.map_replicate, List.map_const', List.length_range]
        · rw [List.all_replicate]
          split <;> rfl
      | lst hl h =>
        rename_i ds
        refine q_no e (b_test (e_isN (e_var rfl r1) rfl)) fun G1 H1 s1 => ?_
        have S1 := s1
        have r0 := r0.ex s1.g
        have r1 := r1.ex s1.g
        refine q_no S1.i (b_B (e_isi (e_var rfl r1) rfl rfl)) fun G2 H2 s2 => ?_
        have S2 := S1.trans s2
        have r0 := r0.ex s2.g
        have r1 := r1.ex s2.g
        refine q_no S2.i (b_B (e_isi (e_var rfl r1) rfl rfl)) fun G3 H3 s3 => ?_
        have S3 := S2.trans s3
        have r0 := r0.ex s3.g
        have r1 := r1.ex s3.g
        refine q_no S3.i (b_B (e_isi (e_var rfl r1) rfl rfl)) fun G4 H4 s4 => ?_
        have S4 := S3.trans s4
        have r0 := r0.ex s4.g
        have r1 := r1.ex s4.g
        refine q_no S4.i (b_orF (b_test (EvD.bl (e_ne (d1 := .bl false) (d2 := .bl false) (e_isi (e_var rfl r1) rfl rfl) (e_isi (e_var rfl r0) rfl rfl) rfl) rfl)) (b_test (EvD.bl (e_ne (d1 := .bl true) (d2 := .bl true) (e_isi (e_var rfl r1) rfl rfl) (e_isi (e_var rfl r0) rfl rfl) rfl) rfl))) fun G5 H5 s5 => ?_
        have S5 := S4.trans s5
        have r0 := r0.ex s5.g
        have r1 := r1.ex s5.g
        refine q_no S5.i (b_test (EvD.bl (e_ne (e_len (e_var rfl r0) rfl) (e_len (e_var rfl r1) rfl) rfl) (congrArg not (decide_eq_true rfl)))) fun G6 H6 s6 => ?_
        have S6 := S5.trans s6
        have r0 := r0.ex s6.g
        have r1 := r1.ex s6.g
        refine s_ret S6.i (EvD.bl (e_all (bs := List.replicate ds.length true) (EvF.toD (f_lc (n := ds.length) (js := [2]) (fun i => [.int i]) (fun _ => true) (fun _ => .bl true) (i_rng1' (e_len (e_var rfl r1) rfl) hl) (fun _ _ => g_name) hl (fun _ _ => rfl) (fun us h => match us, h with | [_], _ => rfl) (fun _ _ _ _ _ _ => b_yes) (fun i hi _ G7 e7 us ru => ?_))) ?_) ?_) fun v G9 H9 s9 r9 => q v G9 H9 (S6.trans s9) r9
        · obtain ⟨w, rfl, rw⟩ := ru.one
          cases rw
          have hd : D.at (.lst ds) (i : Int) = some ds[i] := atI_nat (List.getElem?_eq_getElem hi)
          exact e_call (a_cons (e_ix (e_var rfl (r0.ex e7)) (e_var rfl (.int _)) hd) (a_one (e_ix (e_var rfl (r1.ex e7)) (e_var rfl (.int _)) hd))) ⟨_, rfl, h _ (List.getElem_mem hi), rfl⟩
        · unfold pick
          rw [List.filter_eq_self.mpr (fun _ _ => rfl), List.map_replicate, List.map_const', List.length_range]
        · rw [List.all_replicate]
          split <;> rfl

end

section
variable {P : Program} {w : World} {K : PySem.W.Frag} {mg : Str → Option Value} {base : Heap}
abbrev s__law_mixed : Stmt := top 46
abbrev N__law_mixed : List Str := ["_law_d", "_law_row", "_law_left", "_law_found"]
abbrev P__law_mixed : List Str := ["_law_d", "_law_row"]
theorem sc__law_mixed : FnScope N__law_mixed P__law_mixed (defScope s__law_mixed) := ⟨rfl, rfl, rfl, by decide +kernel, rfl, by decide +kernel, by decide +kernel⟩

/-- data that may be compared -/
def D.low (d : D) : Bool := d.plain && d.py.canLay0 && decide (d.py.depth ≤ 32)
theorem low_lst : ∀ {ds : List D}, (∀ d ∈ ds, d.low = true) → D.plainA ds = true ∧ PyData.canLayAll0 (D.pyA ds) = true ∧ PyData.depthAll (D.pyA ds) ≤ 32
  | [], _ => ⟨rfl, rfl, Nat.zero_le _⟩
  | d :: ds, h => by
    have h1 := h d List.mem_cons_self
    obtain ⟨a, b, c⟩ := low_lst fun x hx => h x (List.mem_cons_of_mem _ hx)
    unfold D.low at h1
    rw [Bool.and_eq_true, Bool.and_eq_true, decide_eq_true_eq] at h1
    obtain ⟨⟨p1, p2⟩, p3⟩ := h1
    refine ⟨?_, ?_, ?_⟩
    · show (d.plain && D.plainA ds) = true
      rw [p1, a]; rfl
    · simp [D.pyA, PyData.canLayAll0, p2, b]
    · simp only [D.pyA, PyData.depthAll]
      omega
theorem ok_lows {ds : List D} (h : ∀ d ∈ ds, d.low = true) : (D.lst ds).ok = true := by
  obtain ⟨a, b, c⟩ := low_lst h
  unfold D.ok SeqAt.shaped
  rw [Bool.and_eq_true, Bool.and_eq_true, decide_eq_true_eq]
  refine ⟨a, ?_, ?_⟩
  · simp [D.py, PyData.canLay0, b]
  · simp only [D.py, PyData.depth]
    omega
theorem eqv_no (ds : List D) : PyData.eqv (D.lst ds).py (D.lst []).py = decide (ds = []) := by
  cases ds with
  | nil => rfl
  | cons d ds => rfl
def Pre_mixed (ds : List D) : Prop := ∃ xs, ds = [.lst xs] ∧ (∀ x ∈ xs, x.low = true) ∧ xs.length ≤ 100000
def R_mixed (ds : List D) (es : List D) : Prop := ∃ xs, ds = [.lst xs] ∧ es.Perm xs
abbrev sp__law_mixed (K : PySem.W.Frag) : Sp := spRF K Pre_mixed R_mixed
theorem perm_erase : ∀ {ds : List D} {k : Nat} {d : D}, ds[k]? = some d → ([d] ++ ds.eraseIdx k).Perm ds
  | [], k, d, h => by simp at h
  | x :: ds, 0, d, h => by
    have z := Option.some.inj h
    subst z
    exact List.Perm.refl _
  | x :: ds, k + 1, d, h => (List.Perm.swap x d _).trans (List.Perm.cons x (perm_erase (k := k) h))
theorem ok__law_mixed {f : Addr} {fd : FuncData} (F : Fun K "_law_mixed" "_law_mixed" s__law_mixed f fd) (T : Tx K mg) (d__law_off : Dk P w K mg base 1 "_law_off" P__law_off (sp__law_off K)) : FnOk P w K mg base CX0 2 f fd P__law_mixed (sp__law_mixed K) := by
  refine F.ok sc__law_mixed (fun vs H Q E h => ?_) (fun cdv A outer s H vs Q E hr h => ?_)
  · obtain ⟨p, ws, G, ds, rfl, e, gp, dc, ra, ⟨xs, rfl, hlow, hlen⟩, q⟩ := h
    exact congrArg (· + 1) ra.len
  · obtain ⟨p, ws, G, ds, rfl, e, gp, dc, ra, ⟨xs, rfl, hlow, hlen⟩, q⟩ := h
    obtain ⟨v1, rfl, r1⟩ := ra.one
    refine ⟨_, (pss_cons (ps_set (i := 2) sc__law_mixed.nd rfl (by first | exact Or.inl rfl | exact Or.inr rfl) (pe_callTy (call_listK K rfl) (by rfl) T.n_list (by decide +kernel) (pa_cons (pv 1) pa_nil)))
    (pss_cons (ps_set (i := 3) sc__law_mixed.nd rfl (by first | exact Or.inl rfl | exact Or.inr rfl) (pe_lst pa_nil))
    (pss_cons (ps_while PassesOwn.never (pt_cmpR (op_neK K rfl hr.units) (pv 2) (pe_lst pa_nil) (nomark _)) (pss_one (ps_expr (pe_bm PySem.F.plainAttrs_list PySem.F.slot_list_append PySem.F.type_list_append mt_append (pv 3) (pa_cons (pe_bm PySem.F.plainAttrs_list PySem.F.slot_list_pop PySem.F.type_list_pop mt_popAt (pv 2) (pa_cons (pe_fn d__law_off (hr.mono (by decide)) (by rfl) (pa_cons (pv 0) (pa_cons (pe_callB (call_lenK K rfl) (by rfl) T.n_len (by decide +kernel) (pa_cons (pv 2) pa_nil)) pa_nil))) pa_nil)) pa_nil)))))
    (pss_one (ps_ret (pv 3)))))), ?_⟩
    try dsimp only [cxOf, Cx.nox, Cx.wish]
    refine q_asgF e (ds := xs) (f_list (e_var rfl r1) rfl) fun l vs0 G1 H1 s1 hl gl xl rl => ?_
    have nl : l ≠ p := dc.ne hl
    have S1 := (Sd.refl e gp dc).then s1
    refine q_newL S1.ii fun r H2 hr2 gr s2 xr => ?_
    have S2 := S1.then s2
    have nr : r ≠ p := S1.d.ne hr2
    have hr0 : H r = none := S1.pre hr2 nr
    have nlr : l ≠ r := fun z => by rw [z, hr2] at xl; cases xl
    obtain ⟨gl2, xl2⟩ := s2.keep gl xl
    refine q_while S2.s (fun m σ' G' H' => ∃ xs' ds' ys es, m = ds'.length ∧ σ' = [some (.ref p), some v1, some (.ref l), some (.ref r)] ∧ G' p = none ∧ Dice p H' ∧ G' l = none ∧ H' l = some (.lst xs') ∧ RpA K G' xs' ds' ∧ G' r = none ∧ H' r = some (.lst ys) ∧ RpA K G' ys es ∧ (es ++ ds').Perm xs) xs.length
      ⟨_, _, _, _, rfl, rfl, S2.g, S2.d, gl2, xl2, rl.ex s2.g, gr, xr, .nil, List.Perm.refl _⟩ ?_
    rintro m σ' G' H' S' ew ⟨xs', ds', ys, es, rfl, rfl, gp', dc', gl', xl', rl', gr', xr', rr', pm⟩
    have hlow' : ∀ x ∈ ds', x.low = true := fun x hx => hlow x (pm.mem_iff.mp (List.mem_append_right _ hx))
    have hsz := pm.length_eq
    rw [List.length_append] at hsz
    refine (b_test (K := K) (e_neD (d1 := .lst ds') (d2 := .lst []) (e_var rfl (.lst upd_same (rl'.ex (Ex.new gl')))) (EvF.toD (f_lst a_nil (by decide))) (ok_lows hlow') rfl)) H' (ex_own S'.i xl') _ fun G3 H3 s3 => ?_
    obtain ⟨G4, s4, gl4, xl4, _⟩ := s3.thaw gl' xl'
    rw [eqv_no]
    have S4 : Sd p G H G' H' := ⟨S', gp', dc'⟩
    have S4 := S4.then s4
    obtain ⟨gr4, xr4⟩ := s4.keep gr' xr'
    by_cases hd : ds' = []
    · subst hd
      rw [if_neg (by simp)]
      refine ⟨_, rfl, q r ys es G4 H3 S4 hr0 gr4 xr4 ⟨xs, rfl, ?_⟩ (rr'.ex s4.g)⟩
      rw [List.append_nil] at pm
      exact pm
    · rw [if_pos (by simp [hd])]
      have hpos : 0 < ds'.length := List.length_pos_iff.mpr hd
      refine ⟨fun σ2 H5 => ∃ m', m' < ds'.length ∧ ∃ G5, Step G (hide p H) G5 H5 ∧ Ex G1 G5 ∧ _, fun _ _ h => h, ?_⟩
      refine ⟨_, rfl, .inl ⟨rfl, ys, .of xr4⟩, _, rfl, .inl ⟨rfl, xs', .of xl4⟩, ?_⟩
      refine EvR.own (K := K) (q := l) (o := .lst xs') (R := R_off [.int ds'.length]) (r_call1 rfl (a_one (e_len (d := .lst ds') (e_var rfl (.lst upd_same ((rl'.ex s4.g).ex (Ex.new gl4)))) rfl)) ⟨ds'.length, rfl, hpos, by omega⟩) (fun d ⟨m, _, r, hd, _⟩ => by subst hd; rfl) nl S4.ii gl4 xl4 S4.g S4.d _ fun v d G5 H5 S5 gl5 xl5 ⟨m, hm, k, hd, hk⟩ rv => ?_
      have hm : ds'.length = m := by injection hm with hm; injection hm with hm; omega
      subst hm
      subst hd
      have z := rv.int_of
      subst z
      have hkx : k < xs'.length := by rw [rl'.len]; exact hk
      obtain ⟨dk, hdk, rdk⟩ := rl'.get (List.getElem?_eq_getElem hkx)
      have S6 := S4.trans S5
      obtain ⟨gr5, xr5⟩ := S5.keep nr gr4 xr4
      refine ⟨l, xs', (k : Int), k, xs'[k], rfl, rfl, xl5, by omega, by omega, ?_, List.getElem?_eq_getElem hkx, ?_⟩
      · exact (ixN_seq (Evl.ixN_nat hkx)).1
      refine ⟨r, ys, xs'[k], rfl, rfl, by rw [upd_ne (Ne.symm nlr)]; exact xr5, ?_, ?_⟩
      · rw [rr'.len, sizeLine_eq]; omega
      refine ⟨ds'.length - 1, by omega, G5, ((S6.mut nl hl gl5).mut nr hr0 gr5).s, ?_, xs'.eraseIdx k, ds'.eraseIdx k, ys ++ [xs'[k]], es ++ [dk], ?_, rfl, S6.g, (S6.d.mut nl).mut nr, gl5, ?_, ((rl'.ex s4.g).ex S5.gg).erase k, gr5, upd_same, ((rr'.ex s4.g).ex S5.gg).snoc ((rdk.ex s4.g).ex S5.gg), ?_⟩
      · exact ew.trans (s4.g.trans S5.gg)
      · rw [List.length_eraseIdx, if_pos hk]
      · rw [upd_ne nlr]; exact upd_same
      · refine List.Perm.trans ?_ pm
        rw [List.append_assoc]
        refine List.Perm.append_left es ?_
        exact perm_erase hdk

end

section
variable {P : Program} {w : World} {K : PySem.W.Frag} {mg : Str → Option Value} {base : Heap}
abbrev s__law_contest : Stmt := top 47
abbrev N__law_contest : List Str := ["_law_d", "_law_rules", "_law_teams", "_law_end", "_law_tasks", "_law_task", "_law_groups", "_law_group", "_law_points", "_law_frozen"]
abbrev P__law_contest : List Str := ["_law_d", "_law_rules"]
theorem sc__law_contest : FnScope N__law_contest P__law_contest (defScope s__law_contest) := ⟨rfl, rfl, rfl, by decide +kernel, rfl, by decide +kernel, by decide +kernel⟩

def Pre_contest (ds : List D) : Prop := ∃ rs : List Str, ds = [.lst (rs.map D.str)] ∧ 0 < rs.length ∧ rs.length ≤ 1000 ∧ ∀ r ∈ rs, r = sFirst ∨ r = sBest ∨ r = sGroups
def R_contest (ds : List D) (d : D) : Prop := ∃ (rs : List Str) (c : Con), ds = [.lst (rs.map D.str)] ∧ d = c.d ∧ c.Ok ∧ c.rule ∈ rs
abbrev sp__law_contest (K : PySem.W.Frag) : Sp := spR K Pre_contest R_contest
def gOk (g : Nat × Nat) : Prop := (1 ≤ g.1 ∧ g.1 ≤ 5) ∧ 1 ≤ g.2 ∧ g.2 ≤ 100
def tOk (fin : Nat) (t : List (Nat × Nat) × Nat) : Prop := t.2 ≤ fin ∧ 1 ≤ t.1.length ∧ t.1.length ≤ 4 ∧ ∀ g ∈ t.1, gOk g
theorem ok__law_contest {f : Addr} {fd : FuncData} (F : Fun K "_law_contest" "_law_contest" s__law_contest f fd) (T : Tx K mg) (d__law_off : Dk P w K mg base 1 "_law_off" P__law_off (sp__law_off K)) : FnOk P w K mg base CX0 2 f fd P__law_contest (sp__law_contest K) := by
  refine F.ok sc__law_contest (fun vs H Q E h => ?_) (fun cdv A outer s H vs Q E hr h => ?_)
  · obtain ⟨p, ws, G, ds, rfl, e, gp, dc, ra, ⟨rs, rfl, hr0, hr1, hrs⟩, q⟩ := h
    exact congrArg (· + 1) ra.len
  · obtain ⟨p, ws, G, ds, rfl, e, gp, dc, ra, ⟨rs, rfl, hr0, hr1, hrs⟩, q⟩ := h
    obtain ⟨v1, rfl, r1⟩ := ra.one
    refine ⟨_, (pss_cons (ps_set (i := 2) sc__law_contest.nd rfl (by first | exact Or.inl rfl | exact Or.inr rfl) (pe_op (op_addK K rfl) pe_int (pe_fn d__law_off (hr.mono (by decide)) (by rfl) (pa_cons (pv 0) (pa_cons (pe_ix (ix_seqK K rfl) (pe_lst (pa_cons pe_int (pa_cons pe_int pa_nil))) (pe_fn d__law_off (hr.mono (by decide)) (by rfl) (pa_cons (pv 0) (pa_cons pe_int pa_nil))) (fun _ _ => rfl)) pa_nil)))))
    (pss_cons (ps_set (i := 3) sc__law_contest.nd rfl (by first | exact Or.inl rfl | exact Or.inr rfl) (pe_ix (ix_seqK K rfl) (pe_lst (pa_cons (pe_op (op_addK K rfl) pe_int (pe_fn d__law_off (hr.mono (by decide)) (by rfl) (pa_cons (pv 0) (pa_cons pe_int pa_nil)))) (pa_cons (pe_op (op_addK K rfl) pe_int (pe_fn d__law_off (hr.mono (by decide)) (by rfl) (pa_cons (pv 0) (pa_cons pe_int pa_nil)))) (pa_cons pe_int pa_nil)))) (pe_fn d__law_off (hr.mono (by decide)) (by rfl) (pa_cons (pv 0) (pa_cons pe_int pa_nil))) (fun _ _ => rfl)))
    (pss_cons (ps_set (i := 4) sc__law_contest.nd rfl (by first | exact Or.inl rfl | exact Or.inr rfl) (pe_lst pa_nil))
    (pss_cons (ps_for PassesOwn.never rfl (pi_range1 (by rfl) T.n_range (pa_cons (pe_op (op_addK K rfl) pe_int (pe_fn d__law_off (hr.mono (by decide)) (by rfl) (pa_cons (pv 0) (pa_cons (pe_ix (ix_seqK K rfl) (pe_lst (pa_cons pe_int (pa_cons pe_int pa_nil))) (pe_fn d__law_off (hr.mono (by decide)) (by rfl) (pa_cons (pv 0) (pa_cons pe_int pa_nil))) (fun _ _ => rfl)) pa_nil)))) pa_nil)) (pg_name (i := 5) sc__law_contest.nd rfl (by first | exact Or.inl rfl | exact Or.inr rfl)) (pss_cons (ps_set (i := 6) sc__law_contest.nd rfl (by first | exact Or.inl rfl | exact Or.inr rfl) (pe_lst pa_nil))
    (pss_cons (ps_for PassesOwn.never rfl (pi_range1 (by rfl) T.n_range (pa_cons (pe_op (op_addK K rfl) pe_int (pe_fn d__law_off (hr.mono (by decide)) (by rfl) (pa_cons (pv 0) (pa_cons pe_int pa_nil)))) pa_nil)) (pg_name (i := 7) sc__law_contest.nd rfl (by first | exact Or.inl rfl | exact Or.inr rfl)) (pss_cons (ps_set (i := 8) sc__law_contest.nd rfl (by first | exact Or.inl rfl | exact Or.inr rfl) (pe_op (op_addK K rfl) pe_int (pe_fn d__law_off (hr.mono (by decide)) (by rfl) (pa_cons (pv 0) (pa_cons (pe_ix (ix_seqK K rfl) (pe_lst (pa_cons pe_int (pa_cons pe_int pa_nil))) (pe_fn d__law_off (hr.mono (by decide)) (by rfl) (pa_cons (pv 0) (pa_cons pe_int pa_nil))) (fun _ _ => rfl)) pa_nil)))))
    (pss_one (ps_expr (pe_bm PySem.F.plainAttrs_list PySem.F.slot_list_append PySem.F.type_list_append mt_append (pv 6) (pa_cons (pe_tup (pa_cons (pe_op (op_addK K rfl) pe_int (pe_fn d__law_off (hr.mono (by decide)) (by rfl) (pa_cons (pv 0) (pa_cons (pe_ix (ix_seqK K rfl) (pe_lst (pa_cons pe_int (pa_cons pe_int pa_nil))) (pe_fn d__law_off (hr.mono (by decide)) (by rfl) (pa_cons (pv 0) (pa_cons pe_int pa_nil))) (fun _ _ => rfl)) pa_nil)))) (pa_cons (pv 8) pa_nil))) pa_nil))))))
    (pss_one (ps_expr (pe_bm PySem.F.plainAttrs_list PySem.F.slot_list_append PySem.F.type_list_append mt_append (pv 4) (pa_cons (pe_tup (pa_cons (pe_callTy (call_tupleK K rfl) (by rfl) T.n_tuple (by decide +kernel) (pa_cons (pv 6) pa_nil)) (pa_cons (pe_ix (ix_seqK K rfl) (pe_lst (pa_cons (pv 3) (pa_cons (pe_fn d__law_off (hr.mono (by decide)) (by rfl) (pa_cons (pv 0) (pa_cons (pe_op (op_addK K rfl) (pv 3) pe_int) pa_nil))) pa_nil))) (pe_fn d__law_off (hr.mono (by decide)) (by rfl) (pa_cons (pv 0) (pa_cons pe_int pa_nil))) (fun _ _ => rfl)) pa_nil))) pa_nil)))))))
    (pss_cons (ps_set (i := 9) sc__law_contest.nd rfl (by first | exact Or.inl rfl | exact Or.inr rfl) (pe_ix (ix_seqK K rfl) (pe_lst (pa_cons (pv 3) (pa_cons pe_int (pa_cons (pe_fn d__law_off (hr.mono (by decide)) (by rfl) (pa_cons (pv 0) (pa_cons (pe_op (op_addK K rfl) (pv 3) pe_int) pa_nil))) (pa_cons (pe_fn d__law_off (hr.mono (by decide)) (by rfl) (pa_cons (pv 0) (pa_cons (pe_op (op_addK K rfl) (pv 3) pe_int) pa_nil))) pa_nil))))) (pe_fn d__law_off (hr.mono (by decide)) (by rfl) (pa_cons (pv 0) (pa_cons pe_int pa_nil))) (fun _ _ => rfl)))
    (pss_one (ps_ret (pe_tup (pa_cons (pe_ix (ix_seqK K rfl) (pv 1) (pe_fn d__law_off (hr.mono (by decide)) (by rfl) (pa_cons (pv 0) (pa_cons (pe_callB (call_lenK K rfl) (by rfl) T.n_len (by decide +kernel) (pa_cons (pv 1) pa_nil)) pa_nil))) (fun _ _ => rfl)) (pa_cons (pv 2) (pa_cons (pv 3) (pa_cons (pv 9) (pa_cons (pe_callTy (call_tupleK K rfl) (by rfl) T.n_tuple (by decide +kernel) (pa_cons (pv 4) pa_nil)) pa_nil))))))))))))), ?_⟩
    try dsimp only [cxOf, Cx.nox, Cx.wish]
    have S0 := Sd.refl e gp dc
    refine qr_asg' (K := K) (R := Btw 2 12) S0 (by walk_at "drw") fun v2 d2 G1 H1 _ S1 ⟨teams, hd2, ht1, ht2⟩ r2 => ?_
    subst hd2
    refine qr_asg' (K := K) (R := Btw 1 300) S1 (by walk_at "drw") fun v3 d3 G2 H2 _ S2 ⟨fin, hd3, hf1, hf2⟩ r3 => ?_
    subst hd3
    have z3 := r3.int_of
    have z2 := r2.int_of
    subst z3 z2
    refine q_newLR S2 fun tl H3 tl1 tl2 tl3 tl4 S3 s3 tx => ?_
    refine q_rngR (K := K) (lo := 1) (hi := 6) (by decide) S3.ii S3.g S3.d (by walk_at "drw") fun n G4 H4 hn1 hn2 S34 => ?_
    have S4 := S3.trans S34
    obtain ⟨tg4, tx4⟩ := S34.keep tl3 tl4 tx
    refine q_for (K := K) (n := n) (js := [5]) (E := fun i => [.int i]) S4.s (i_rng1' (e_c (.int _)) (by omega)) (fun i hi => g_name)
      (fun i σ' G' H' => G' p = none ∧ Dice p H' ∧ G' tl = none ∧ (∃ xs tks, H' tl = some (.lst xs) ∧ RpA K G' xs (tks.map tkD) ∧ tks.length = i ∧ ∀ t ∈ tks, tOk fin t) ∧ ∃ w5 w6 w7 w8 w9, σ' = [some (.ref p), some v1, some (.int teams), some (.int fin), some (.ref tl), w5, w6, w7, w8, w9])
      (fun G5 H5 s5 => ⟨(S4.then s5).g, (S4.then s5).d, (s5.keep tg4 tx4).1, ⟨_, [], (s5.keep tg4 tx4).2, .nil, rfl, fun _ h => nomatch h⟩, _, _, _, _, _, rfl⟩) ?_ ?_
    · rintro Gw ew i hi σ' G' H' S' ew' ⟨gp', dc', tg', ⟨xs, tks, tx', rx, hl, hok⟩, w5, w6, w7, w8, w9, rfl⟩ G5 H5 us s5 ru
      obtain ⟨a, rfl, ra⟩ := ru.one
      have S5 : Sd p G H G5 H5 := (Sd.mk S' gp' dc').then s5
      obtain ⟨tg5, tx5⟩ := s5.keep tg' tx'
      refine q_newLR S5 fun gl H6 gl1 gl2 gl3 gl4 S6 s6 gx => ?_
      have ntg : tl ≠ gl := fun z => by rw [z, gl1] at tx5; cases tx5
      obtain ⟨tg6, tx6⟩ := s6.keep tg5 tx5
      refine q_rngR (K := K) (lo := 1) (hi := 4) (by decide) S6.ii S6.g S6.d (by walk_at "drw") fun m G7 H7 hm1 hm2 S67 => ?_
      have S7 := S6.trans S67
      obtain ⟨tg7, tx7⟩ := S67.keep tl3 tg6 tx6
      obtain ⟨gg7, gx7⟩ := S67.keep gl3 gl4 gx
      refine q_for (K := K) (n := m) (js := [7]) (E := fun i => [.int i]) S7.s (i_rng1' (e_c (.int _)) (by omega)) (fun i hi => g_name)
        (fun i σ' G' H' => G' p = none ∧ Dice p H' ∧ (G' tl = none ∧ H' tl = some (.lst xs)) ∧ G' gl = none ∧ (∃ ys gs, H' gl = some (.lst ys) ∧ RpA K G' ys (gs.map gD) ∧ gs.length = i ∧ ∀ g ∈ gs, gOk g) ∧ ∃ w7 w8, σ' = [some (.ref p), some v1, some (.int teams), some (.int fin), some (.ref tl), some a, some (.ref gl), w7, w8, w9])
        (fun G8 H8 s8 => ⟨(S7.then s8).g, (S7.then s8).d, s8.keep tg7 tx7, (s8.keep gg7 gx7).1, ⟨_, [], (s8.keep gg7 gx7).2, .nil, rfl, fun _ h => nomatch h⟩, _, _, rfl⟩) ?_ ?_
      · rintro Gv ev j hj σ'' G' H' S'' ev' ⟨gp'', dc'', ⟨tg8, tx8⟩, gg8, ⟨ys, gs, gx8, ry, hgl, hgok⟩, w7, w8, rfl⟩ G8 H8 us s8 ru
        obtain ⟨b, rfl, rb⟩ := ru.one
        have S8 : Sd p G H G8 H8 := (Sd.mk S'' gp'' dc'').then s8
        obtain ⟨tg9, tx9⟩ := s8.keep tg8 tx8
        obtain ⟨gg9, gx9⟩ := s8.keep gg8 gx8
        refine qr_asg' (K := K) (R := Btw 1 100) S8 (by walk_at "drw") fun v9 d9 G9 H9 S89 S9 ⟨pts, hd9, hp1, hp2⟩ r9 => ?_
        subst hd9
        have z9 := r9.int_of
        subst z9
        obtain ⟨tg10, tx10⟩ := S89.keep tl3 tg9 tx9
        obtain ⟨gg10, gx10⟩ := S89.keep gl3 gg9 gx9
        have hyl : ys.length = gs.length := by rw [ry.len, List.length_map]
        refine s_appR (K := K) (R := fun d => ∃ g, d = gD g ∧ gOk g) S9.ii S9.g S9.d gl3 gg10 gx10 rfl (r_tup (rs_cons (RA := Btw 1 5) (by walk_at "drw") (rs_one (RA := Btw pts pts) (by walk_at "dr") (Rs := fun ds => ds = [.int pts]) fun d ⟨r, e1, e2, e3⟩ => ?_) fun d ds ⟨r, e1, e2, e3⟩ e4 => ?_)) (by omega) fun v10 d10 G10 H10 S910 gg11 ⟨g, hd10, hgk⟩ r10 => ?_
        · have : r = pts := by omega
          subst this
          rw [e1]
        · subst e1 e4
          exact ⟨(by show 2 ≤ 1000; decide), (r, pts), rfl, ⟨e2, e3⟩, hp1, hp2⟩
        · subst hd10
          obtain ⟨tg11, tx11⟩ := S910.keep tl3 tg10 tx10
          have S10 := S9.trans S910
          have S11 := S10.mut (o := .lst (ys ++ [v10])) gl3 gl2 gg11
          refine ⟨G10, S11.s, ev'.trans (s8.g.trans (S89.gg.trans S910.gg)), S11.g, S11.d, ⟨tg11, by rw [upd_ne ntg]; exact tx11⟩, gg11, ⟨ys ++ [v10], gs ++ [g], upd_same, ?_, by rw [List.length_append, hgl]; rfl, fun g' hg' => ?_⟩, _, _, rfl⟩
          · rw [List.map_append]
            exact (ry.ex (s8.g.trans (S89.gg.trans S910.gg))).snoc r10
          · rcases List.mem_append.mp hg' with h | h
            · exact hgok g' h
            · rw [List.mem_singleton.mp h]; exact hgk
      · rintro σ'' G' H' S'' ev' ⟨gp'', dc'', ⟨tg8, tx8⟩, gg8, ⟨ys, gs, gx8, ry, hgl, hgok⟩, w7, w8, rfl⟩
        have S8 : Sd p G H G' H' := ⟨S'', gp'', dc''⟩
        have S9 := S8.freeze gl3 gl2 gg8 gx8
        have tg9 : upd G' gl (.lst ys) tl = none := by rw [upd_ne ntg]; exact tg8
        have hxl : xs.length = tks.length := by rw [rx.len, List.length_map]
        refine s_appR (K := K) (R := fun d => ∃ t, d = tkD t ∧ tOk fin t) S9.ii S9.g S9.d tl3 tg9 tx8 rfl (r_tup (rs_cons (RA := fun d => d = .tup (gs.map gD)) (r_of (e_tuple (e_var rfl (.lst upd_same (ry.ex (Ex.new gg8))))) rfl) (rs_one (RA := Btw 0 fin) (by walk_at "drw") (Rs := fun ds => ∃ r : Nat, ds = [.int r] ∧ r ≤ fin) fun d ⟨r, e1, e2, e3⟩ => ?_) fun d ds e1 ⟨r, e2, e3⟩ => ?_)) (by omega) fun v10 d10 G10 H10 S910 gg11 ⟨t, hd10, hgk⟩ r10 => ?_
        · exact ⟨r, by rw [e1], e3⟩
        · subst e1 e2
          exact ⟨(by show 2 ≤ 1000; decide), (gs, r), rfl, e3, (by show 1 ≤ gs.length; omega), (by show gs.length ≤ 4; omega), hgok⟩
        · subst hd10
          have S10 := S9.trans S910
          have S11 := S10.mut (o := .lst (xs ++ [v10])) tl3 tl2 gg11
          have eE : Ex G5 G10 := (Ex.trans (Ex.trans S67.gg ev') (Ex.new gg8)).trans S910.gg
          refine ⟨G10, S11.s, ew'.trans (s5.g.trans eE), S11.g, S11.d, gg11, ⟨xs ++ [v10], tks ++ [t], upd_same, ?_, by rw [List.length_append, hl]; rfl, fun g' hg' => ?_⟩, _, _, _, _, _, rfl⟩
          · rw [List.map_append]
            exact (rx.ex (s5.g.trans eE)).snoc r10
          · rcases List.mem_append.mp hg' with h | h
            · exact hok g' h
            · rw [List.mem_singleton.mp h]; exact hgk
    · rintro σ' G' H' S' ew' ⟨gp', dc', tg', ⟨xs, tks, tx', rx, hl, hok⟩, w5, w6, w7, w8, w9, rfl⟩
      have S5 : Sd p G H G' H' := ⟨S', gp', dc'⟩
      have S6 := S5.freeze tl3 tl2 tg' tx'
      refine qr_asg' (K := K) (R := Btw 0 fin) S6 (by walk_at "drw") fun v9 d9 G7 H7 S67 S7 ⟨fz, hd9, _, hf3⟩ r9 => ?_
      subst hd9
      have e7 : Ex G G7 := S7.gg
      have r1' := r1.ex e7
      have rt : Rp K G7 (.ref tl) (.lst (tks.map tkD)) := (Rp.lst upd_same (rx.ex (Ex.new tg'))).ex S67.gg
      have hlr : (rs.map D.str).length = rs.length := List.length_map _
      refine sr_ret' (K := K) (R := R_contest [.lst (rs.map D.str)]) S7 (r_tup (rs_cons (RA := fun d => ∃ r, r ∈ rs ∧ d = .str r) (r_ixL (e_var rfl r1') (r_offN rfl (e_len (e_var rfl r1') rfl) (by omega) (by omega)) fun d hd => ?_)
        (rs_of (Rs := fun ds => ds = [.int teams, .int fin, .int fz, .tup (tks.map tkD)]) (a_cons (by walk_at "ev") (a_cons (by walk_at "ev") (a_cons (e_var rfl r9) (a_one (e_tuple (e_var rfl rt)))))) rfl) fun d ds ⟨r, e1, e2⟩ e3 => ?_)) fun v d G8 H8 S8 hR rv => q v d G8 H8 S8.s S8.g S8.d hR rv
      · obtain ⟨r, h1, h2⟩ := List.mem_map.mp hd
        exact ⟨r, h1, h2.symm⟩
      · subst e2 e3
        exact ⟨by show 5 ≤ 1000; decide, rs, ⟨r, teams, fin, fz, tks⟩, rfl, rfl, ⟨hrs r e1, ⟨ht1, ht2⟩, ⟨hf1, hf2⟩, hf3, ⟨by show 1 ≤ tks.length; omega, by show tks.length ≤ 6; omega⟩, hok⟩, e1⟩

end

section
variable {P : Program} {w : World} {K : PySem.W.Frag} {mg : Str → Option Value} {base : Heap}
abbrev s__law_tries : Stmt := top 48
abbrev N__law_tries : List Str := ["_law_d", "_law_contest_here", "_law_most", "_law_found", "_law_few", "_law_time", "_law_step", "_law_k"]
abbrev P__law_tries : List Str := ["_law_d", "_law_contest_here", "_law_most"]
theorem sc__law_tries : FnScope N__law_tries P__law_tries (defScope s__law_tries) := ⟨rfl, rfl, rfl, by decide +kernel, rfl, by decide +kernel, by decide +kernel⟩

def Pre_tries (ds : List D) : Prop := ∃ (c : Con) (m : Nat), ds = [c.d, .int m] ∧ c.Ok ∧ m ≤ 200
def R_tries (ds : List D) (es : List D) : Prop := ∃ (c : Con) (m : Nat) (ts : List Try), ds = [c.d, .int m] ∧ es = ts.map trD ∧ TriesOk c ts ∧ ts.length ≤ m
abbrev sp__law_tries (K : PySem.W.Frag) : Sp := spRF K Pre_tries R_tries
theorem ok__law_tries {f : Addr} {fd : FuncData} (F : Fun K "_law_tries" "_law_tries" s__law_tries f fd) (T : Tx K mg) (d__law_off : Dk P w K mg base 1 "_law_off" P__law_off (sp__law_off K)) : FnOk P w K mg base CX0 2 f fd P__law_tries (sp__law_tries K) := by
  refine F.ok sc__law_tries (fun vs H Q E h => ?_) (fun cdv A outer s H vs Q E hr h => ?_)
  · obtain ⟨p, ws, G, ds, rfl, e, gp, dc, ra, ⟨c, m, rfl, oc, hm⟩, q⟩ := h
    exact congrArg (· + 1) ra.len
  · obtain ⟨p, ws, G, ds, rfl, e, gp, dc, ra, ⟨c, m, rfl, oc, hm⟩, q⟩ := h
    obtain ⟨v1, v2, rfl, r1, r2⟩ := ra.two
    refine ⟨_, (pss_cons (ps_set (i := 3) sc__law_tries.nd rfl (by first | exact Or.inl rfl | exact Or.inr rfl) (pe_lst pa_nil))
    (pss_cons (ps_set (i := 4) sc__law_tries.nd rfl (by first | exact Or.inl rfl | exact Or.inr rfl) (pe_ix (ix_seqK K rfl) (pe_lst (pa_cons pe_int (pa_cons pe_int (pa_cons pe_int pa_nil)))) (pe_fn d__law_off (hr.mono (by decide)) (by rfl) (pa_cons (pv 0) (pa_cons pe_int pa_nil))) (fun _ _ => rfl)))
    (pss_cons (ps_set (i := 5) sc__law_tries.nd rfl (by first | exact Or.inl rfl | exact Or.inr rfl) pe_int)
    (pss_cons (ps_set (i := 6) sc__law_tries.nd rfl (by first | exact Or.inl rfl | exact Or.inr rfl) (pe_ix (ix_seqK K rfl) (pe_lst (pa_cons pe_int (pa_cons pe_int (pa_cons pe_int pa_nil)))) (pe_fn d__law_off (hr.mono (by decide)) (by rfl) (pa_cons (pv 0) (pa_cons pe_int pa_nil))) (fun _ _ => rfl)))
    (pss_cons (ps_for PassesOwn.never rfl (pi_range1 (by rfl) T.n_range (pa_cons (pe_fn d__law_off (hr.mono (by decide)) (by rfl) (pa_cons (pv 0) (pa_cons (pe_op (op_addK K rfl) (pv 2) pe_int) pa_nil))) pa_nil)) (pg_name (i := 7) sc__law_tries.nd rfl (by first | exact Or.inl rfl | exact Or.inr rfl)) (pss_cons (ps_set (i := 5) sc__law_tries.nd rfl (by first | exact Or.inl rfl | exact Or.inr rfl) (pe_callB (call_min2 rfl) (by rfl) T.n_min (by decide +kernel) (pa_cons pe_int (pa_cons (pe_op (op_addK K rfl) (pv 5) (pe_fn d__law_off (hr.mono (by decide)) (by rfl) (pa_cons (pv 0) (pa_cons (pe_op (op_addK K rfl) (pv 6) pe_int) pa_nil)))) pa_nil))))
    (pss_one (ps_expr (pe_bm PySem.F.plainAttrs_list PySem.F.slot_list_append PySem.F.type_list_append mt_append (pv 3) (pa_cons (pe_tup (pa_cons (pe_fn d__law_off (hr.mono (by decide)) (by rfl) (pa_cons (pv 0) (pa_cons (pe_callB (call_min2 rfl) (by rfl) T.n_min (by decide +kernel) (pa_cons (pv 4) (pa_cons (pe_ix (ix_seqK K rfl) (pv 1) pe_int (fun _ _ => rfl)) pa_nil))) pa_nil))) (pa_cons (pe_fn d__law_off (hr.mono (by decide)) (by rfl) (pa_cons (pv 0) (pa_cons (pe_callB (call_lenK K rfl) (by rfl) T.n_len (by decide +kernel) (pa_cons (pe_ix (ix_seqK K rfl) (pv 1) pe_int (fun _ _ => rfl)) pa_nil)) pa_nil))) (pa_cons (pv 5) pa_nil)))) pa_nil))))))
    (pss_one (ps_ret (pv 3)))))))), ?_⟩
    try dsimp only [cxOf, Cx.nox, Cx.wish]
    have z2 := r2.int_of
    subst z2
    have S0 := Sd.refl e gp dc
    refine q_newLR S0 fun tl H1 tl1 tl2 tl3 tl4 S1 s1 tx => ?_
    refine qr_asg' (K := K) (R := Btw 1 12) S1 (by walk_at "drw") fun v4 d4 G2 H2 s2 S2 ⟨few, hd4, hf1, hf2⟩ r4 => ?_
    subst hd4
    have z4 := r4.int_of
    subst z4
    refine q_asgC ?_
    refine qr_asg' (K := K) (R := Btw 1 40) S2 (by walk_at "drw") fun v6 d6 G3 H3 s3 S3 ⟨st, hd6, hs1, hs2⟩ r6 => ?_
    subst hd6
    have z6 := r6.int_of
    subst z6
    obtain ⟨tg3, tx3⟩ := (s2.trans s3).keep tl3 tl4 tx
    refine q_rngR (K := K) (lo := 0) (hi := m) (by omega) S3.ii S3.g S3.d (by walk_at "drw") fun n G4 H4 hn1 hn2 S34 => ?_
    have S4 := S3.trans S34
    obtain ⟨tg4, tx4⟩ := S34.keep tl3 tg3 tx3
    have r1 := r1.ex S4.gg
    refine q_for (K := K) (n := n) (js := [7]) (E := fun i => [.int i]) S4.s (i_rng1' (e_c (.int _)) (by omega)) (fun i hi => g_name)
      (fun i σ' G' H' => G' p = none ∧ Dice p H' ∧ G' tl = none ∧ (∃ (xs : List V) (ts : List Try) (T : Nat), H' tl = some (.lst xs) ∧ RpA K G' xs (ts.map trD) ∧ ts.length = i ∧ TriesOk c ts ∧ T ≤ 999 ∧ (∀ t ∈ ts, t.2.2 ≤ T) ∧ ∃ w7, σ' = [some (.ref p), some v1, some (.int m), some (.ref tl), some (.int few), some (.int T), some (.int st), w7]))
      (fun G5 H5 s5 => ⟨(S4.then s5).g, (S4.then s5).d, (s5.keep tg4 tx4).1, ⟨_, [], 0, (s5.keep tg4 tx4).2, .nil, rfl, ⟨by decide, fun _ h => (nomatch h), .nil⟩, by decide, fun _ h => (nomatch h), _, rfl⟩⟩) ?_ ?_
    · rintro Gw ew i hi σ' G' H' S' ew' ⟨gp', dc', tg', ⟨xs, ts, T, tx', rx, hl, ot, hT, hTs, w7, rfl⟩⟩ G5 H5 us s5 ru
      obtain ⟨a, rfl, ra⟩ := ru.one
      have S5 : Sd p G H G5 H5 := (Sd.mk S' gp' dc').then s5
      obtain ⟨tg5, tx5⟩ := s5.keep tg' tx'
      refine qr_asg' (K := K) (R := Btw T 999) S5 (by walk_at "drw") fun v5 d5 G6 H6 s6 S6 ⟨T2, hd5, hT1, hT2⟩ r5 => ?_
      subst hd5
      have z5 := r5.int_of
      subst z5
      obtain ⟨tg6, tx6⟩ := s6.keep tl3 tg5 tx5
      have q1 := r1.ex (ew.trans (ew'.trans (s5.g.trans s6.gg)))
      have ht := oc.teams
      have htk := oc.many
      have hxl : xs.length = ts.length := by rw [rx.len, List.length_map]
      have htl : (c.tasks.map tkD).length = c.tasks.length := List.length_map _
      refine s_appR (K := K) (R := fun d => ∃ t, d = trD t ∧ TrOk c t ∧ t.2.2 = T2) S6.ii S6.g S6.d tl3 tg6 tx6 rfl (r_tup (rs_cons (RA := Btw 0 (c.teams - 1)) (r_w (r_off rfl (r_min2 (r_n (by walk_at "ev")) (r_n (n := c.teams) (e_ix (d1 := c.d) (by walk_at "ev") e_int rfl))) (by omega) (by omega)) (by omega) (by omega))
        (rs_cons (RA := Btw 0 (c.tasks.length - 1)) (r_w (r_off rfl (r_n (n := c.tasks.length) (e_len (d := .tup (c.tasks.map tkD)) (e_ix (d1 := c.d) (by walk_at "ev") e_int rfl) (congrArg some htl))) (by omega) (by omega)) (by omega) (by omega))
        (rs_one (RA := Btw T2 T2) (by walk_at "dr") (Rs := fun ds => ds = [.int T2]) fun d ⟨r, e1, e2, e3⟩ => ?_) (Rs := fun ds => ∃ k : Nat, ds = [.int k, .int T2] ∧ k < c.tasks.length) fun d ds ⟨r, e1, e2, e3⟩ e4 => ?_) fun d ds ⟨r, e1, e2, e3⟩ ⟨k, e4, e5⟩ => ?_)) (by omega) fun v10 d10 G10 H10 S910 gg11 ⟨t, hd10, hgk, htt⟩ r10 => ?_
      · have : r = T2 := by omega
        subst this
        rw [e1]
      · subst e1 e4
        exact ⟨r, rfl, by omega⟩
      · subst e1 e4
        exact ⟨(by show 3 ≤ 1000; decide), (r, k, T2), rfl, ⟨by show r < c.teams; omega, e5, hT2⟩, rfl⟩
      · subst hd10
        have S10 := S6.trans S910
        have S11 := S10.mut (o := .lst (xs ++ [v10])) tl3 tl2 gg11
        have eE : Ex G' G10 := s5.g.trans (s6.gg.trans S910.gg)
        refine ⟨G10, S11.s, ew'.trans eE, S11.g, S11.d, gg11, ⟨xs ++ [v10], ts ++ [t], T2, upd_same, ?_, by rw [List.length_append, hl]; rfl, ⟨by rw [List.length_append]; show _ + 1 ≤ 200; omega, fun t' ht' => ?_, ?_⟩, hT2, fun t' ht' => ?_, _, rfl⟩⟩
        · rw [List.map_append]
          exact (rx.ex eE).snoc r10
        · rcases List.mem_append.mp ht' with h | h
          · exact ot.ok t' h
          · rw [List.mem_singleton.mp h]; exact hgk
        · refine List.pairwise_append.mpr ⟨ot.rise, List.pairwise_singleton _ _, fun a ha b hb => ?_⟩
          rw [List.mem_singleton.mp hb, htt]
          exact Nat.le_trans (hTs a ha) hT1
        · rcases List.mem_append.mp ht' with h | h
          · exact Nat.le_trans (hTs t' h) hT1
          · rw [List.mem_singleton.mp h, htt]; exact Nat.le_refl _
    · rintro σ' G' H' S' ew' ⟨gp', dc', tg', ⟨xs, ts, T, tx', rx, hl, ot, hT, hTs, w7, rfl⟩⟩
      exact ⟨_, rfl, q tl xs _ G' H' ⟨S', gp', dc'⟩ tl2 tg' tx' ⟨c, m, ts, rfl, rfl, ot, by omega⟩ rx⟩

end

section
variable {P : Program} {w : World} {K : PySem.W.Frag} {mg : Str → Option Value} {base : Heap}
abbrev s__law_size : Stmt := top 49
abbrev N__law_size : List Str := ["_law_contest_here", "_law_task", "_law_many", "_law_points"]
abbrev P__law_size : List Str := ["_law_contest_here", "_law_task"]
theorem sc__law_size : FnScope N__law_size P__law_size (defScope s__law_size) := ⟨rfl, rfl, rfl, by decide +kernel, rfl, by decide +kernel, by decide +kernel⟩

def R_law_size (ds : List D) (r : D) : Prop := ∃ (c : Con) (k : Nat), ds = [c.d, .int k] ∧ c.Ok ∧ k < c.tasks.length ∧ r = .int (c.size k)
abbrev sp__law_size (K : PySem.W.Frag) : Sp := spP K R_law_size
theorem ok__law_size {f : Addr} {fd : FuncData} (F : Fun K "_law_size" "_law_size" s__law_size f fd) (T : Tx K mg) : FnOk P w K mg base CX0 1 f fd P__law_size (sp__law_size K) := by
  refine F.ok sc__law_size (fun vs H Q E h => ?_) (fun cdv A outer s H vs Q E hr h => ?_)
  · obtain ⟨G, ds, r, e, ra, ⟨c, k, rfl, oc, hk, rfl⟩, q⟩ := h
    exact ra.len
  · obtain ⟨G, ds, r, e, ra, ⟨c, k, rfl, oc, hk, rfl⟩, q⟩ := h
    obtain ⟨v0, v1, rfl, r0, r1⟩ := ra.two
    have hc := Con.task_at hk
    have ok := Con.task_ok oc hk
    refine ⟨_, (pss_one (ps_ret (pe_callB (cr_sumK K rfl rfl) (by rfl) T.n_sum (by decide +kernel) (pa_cons (pe_lc (own := [("_law_many", 2), ("_law_points", 3)]) (g := gTup K 2 (gCons (gName 2) (gCons (gName 3) gNil))) (tt := tYes) rfl sc__law_size.nd (pi_seqK K rfl (pe_ix (ix_seqK K rfl) (pe_ix (ix_seqK K rfl) (pe_ix (ix_seqK K rfl) (pv 0) pe_int (fun _ _ => rfl)) (pv 1) (fun _ _ => rfl)) pe_int (fun _ _ => rfl))) (blkOk_by (own := [("_law_many", 2), ("_law_points", 3)]) (N := N__law_size) (sc := defScope s__law_size) (by decide +kernel)) (fun _ _ _ _ _ => (pg_tup rfl (pgs_cons (pg_name (i := 2) sc__law_size.nd rfl (by first | exact Or.inl rfl | exact Or.inr rfl)) (pgs_cons (pg_name (i := 3) sc__law_size.nd rfl (by first | exact Or.inl rfl | exact Or.inr rfl)) pgs_nil)))) (fun _ _ _ _ _ => pts_nil) (fun _ _ _ _ _ => (pv 2))) pa_nil)))), ?_⟩
    try dsimp only [cxOf, Cx.nox, Cx.wish]
    refine s_ret (d := .int (c.size k)) e ?_ q
    refine EvD.eq (e_sum (ns := (c.groups k).map fun g => (g.1 : Int)) (EvF.toD (f_lcm (xs := c.groups k) (Y := nth ((c.groups k).map gD)) (js := [2, 3]) (fun _ g => [.int g.1, .int g.2]) (fun _ => true) (fun g => .int g.1)
      (i_seqT' (List.length_map _) (e_ix (d1 := tkD (c.task k)) (e_ix (d1 := .tup (c.tasks.map tkD)) (i := k) (by walk_at "ev") (by walk_at "ev") (at_mapT hc)) e_int rfl)) (fun i x hx => by rw [nth_map hx]; exact g_two) (by omega) (fun _ _ _ => rfl) (fun us h => match us, h with | [_, _], _ => rfl)
      (fun _ _ _ _ _ _ _ => b_yes) (fun i x hx _ G1 e1 us ru => ?_))) ?_) ?_
    · obtain ⟨a, b, rfl, ra, rb⟩ := ru.two
      exact e_var rfl ra
    · rw [List.filter_eq_self.mpr (fun _ _ => rfl), List.map_map]
      rfl
    · have h := sum_nat ((c.groups k).map (·.1))
      rw [List.map_map] at h
      exact congrArg D.int h

end

section
variable {P : Program} {w : World} {K : PySem.W.Frag} {mg : Str → Option Value} {base : Heap}
abbrev s__law_truth : Stmt := top 50
abbrev N__law_truth : List Str := ["_law_d", "_law_contest_here", "_law_tries_here", "_law_found", "_law_number", "_law_often", "_law_trial"]
abbrev P__law_truth : List Str := ["_law_d", "_law_contest_here", "_law_tries_here"]
theorem sc__law_truth : FnScope N__law_truth P__law_truth (defScope s__law_truth) := ⟨rfl, rfl, rfl, by decide +kernel, rfl, by decide +kernel, by decide +kernel⟩

/-- all trials of all tries, rising -/
def trialsUpTo (c : Con) (ts : List Try) (i : Nat) : List (Nat × Nat) := (List.range i).flatMap fun n => (List.range (szOf c ts n)).map fun t => (n, t)
abbrev allTr (c : Con) (ts : List Try) : List (Nat × Nat) := trialsUpTo c ts ts.length
theorem trialsUpTo_succ (c : Con) (ts : List Try) (i : Nat) : trialsUpTo c ts (i + 1) = trialsUpTo c ts i ++ (List.range (szOf c ts i)).map fun t => (i, t) := by
  unfold trialsUpTo
  rw [List.range_succ, List.flatMap_append, List.flatMap_singleton]
theorem mem_trialsUpTo {c : Con} {ts : List Try} {i : Nat} {x : Nat × Nat} : x ∈ trialsUpTo c ts i ↔ x.1 < i ∧ x.2 < szOf c ts x.1 := by
  unfold trialsUpTo
  simp only [List.mem_flatMap, List.mem_range, List.mem_map]
  constructor
  · rintro ⟨n, hn, t, ht, rfl⟩
    exact ⟨hn, ht⟩
  · rintro ⟨h1, h2⟩
    exact ⟨x.1, h1, x.2, h2, rfl⟩
theorem trialsUpTo_len {c : Con} {ts : List Try} (oc : c.Ok) (ot : TriesOk c ts) : ∀ {i : Nat}, i ≤ ts.length → (trialsUpTo c ts i).length ≤ 20 * i
  | 0, _ => Nat.le_refl _
  | i + 1, h => by
    have h1 := trialsUpTo_len oc ot (i := i) (by omega)
    have h2 : szOf c ts i ≤ 20 := Con.size_le20 oc (ot.at (n := i) (by omega)).task
    rw [trialsUpTo_succ, List.length_append, List.length_map, List.length_range]
    omega
def vkD (vs : List Ver) : List (List Key × V) := vs.map fun v => (verK v, V.bl v.2.2)
def vpos (vs : List Ver) : List (Nat × Nat) := vs.map fun v => (v.1, v.2.1)
def Pre_truth (ds : List D) : Prop := ∃ (c : Con) (ts : List Try), ds = [c.d, trsD ts] ∧ c.Ok ∧ TriesOk c ts
def R_truth (ds : List D) (d : D) : Prop := ∃ (c : Con) (ts : List Try) (vs : List Ver), ds = [c.d, trsD ts] ∧ d = .tab (vkD vs) ∧ vpos vs = allTr c ts
abbrev sp__law_truth (K : PySem.W.Frag) : Sp := spR K Pre_truth R_truth
theorem vkD_put {vs : List Ver} {n t : Nat} {b : Bool} (h : (n, t) ∉ vpos vs) : putK (vkD vs) [.inl n, .inl t] (.bl b) = vkD (vs ++ [(n, t, b)]) := by
  have hnone : valV (vkD vs) (verK (n, t, b)) = none := valV_map_none fun x hx hxe => h (List.mem_map.mpr ⟨x, hx, verK_inj hxe⟩)
  unfold vkD at hnone ⊢
  rw [List.map_append]
  exact putK_new _ hnone
theorem ok__law_truth {f : Addr} {fd : FuncData} (F : Fun K "_law_truth" "_law_truth" s__law_truth f fd) (T : Tx K mg) (d__law_off : Dk P w K mg base 1 "_law_off" P__law_off (sp__law_off K)) (d__law_size : Dk P w K mg base 1 "_law_size" P__law_size (sp__law_size K)) : FnOk P w K mg base CX0 2 f fd P__law_truth (sp__law_truth K) := by
  refine F.ok sc__law_truth (fun vs H Q E h => ?_) (fun cdv A outer s H vs Q E hr h => ?_)
  · obtain ⟨p, ws, G, ds, rfl, e, gp, dc, ra, ⟨c, ts, rfl, oc, ot⟩, q⟩ := h
    exact congrArg (· + 1) ra.len
  · obtain ⟨p, ws, G, ds, rfl, e, gp, dc, ra, ⟨c, ts, rfl, oc, ot⟩, q⟩ := h
    obtain ⟨v1, v2, rfl, r1, r2⟩ := ra.two
    refine ⟨_, (pss_cons (ps_set (i := 3) sc__law_truth.nd rfl (by first | exact Or.inl rfl | exact Or.inr rfl) pe_dnewT)
    (pss_cons (ps_for PassesOwn.never rfl (pi_range1 (by rfl) T.n_range (pa_cons (pe_callB (call_lenK K rfl) (by rfl) T.n_len (by decide +kernel) (pa_cons (pv 2) pa_nil)) pa_nil)) (pg_name (i := 4) sc__law_truth.nd rfl (by first | exact Or.inl rfl | exact Or.inr rfl)) (pss_cons (ps_set (i := 5) sc__law_truth.nd rfl (by first | exact Or.inl rfl | exact Or.inr rfl) (pe_ix (ix_seqK K rfl) (pe_lst (pa_cons pe_int (pa_cons pe_int (pa_cons pe_int (pa_cons (pe_op op_pow pe_int pe_int) pa_nil))))) (pe_fn d__law_off (hr.mono (by decide)) (by rfl) (pa_cons (pv 0) (pa_cons pe_int pa_nil))) (fun _ _ => rfl)))
    (pss_one (ps_for PassesOwn.never rfl (pi_range1 (by rfl) T.n_range (pa_cons (pe_fn d__law_size (hr.mono (by decide)) (by rfl) (pa_cons (pv 1) (pa_cons (pe_ix (ix_seqK K rfl) (pe_ix (ix_seqK K rfl) (pv 2) (pv 4) (fun _ _ => rfl)) pe_int (fun _ _ => rfl)) pa_nil))) pa_nil)) (pg_name (i := 6) sc__law_truth.nd rfl (by first | exact Or.inl rfl | exact Or.inr rfl)) (pss_one (ps_dput (hu_of hr) (pv 3) (pe_tup (pa_cons (pv 4) (pa_cons (pv 6) pa_nil))) (pe_cmpR op_gt (pe_fn d__law_off (hr.mono (by decide)) (by rfl) (pa_cons (pv 0) (pa_cons (pv 5) pa_nil))) pe_int (nomark _)) rfl))))))
    (pss_one (ps_ret (pv 3))))), ?_⟩
    try dsimp only [cxOf, Cx.nox, Cx.wish]
    have S0 := Sd.refl e gp dc
    refine q_newTR S0 fun tl H1 tl1 tl2 tl3 tl4 S1 s1 tx => ?_
    have hl := ot.len
    have htl : (ts.map trD).length = ts.length := List.length_map _
    refine q_for (K := K) (n := ts.length) (js := [4]) (E := fun i => [.int i]) S1.s (i_rng1' (e_len (d := trsD ts) (by walk_at "ev") (congrArg some htl)) (by omega)) (fun i hi => g_name)
      (fun i σ' G' H' => G' p = none ∧ Dice p H' ∧ G' tl = none ∧ (∃ vs, H' tl = some (.dT (vkD vs)) ∧ vpos vs = trialsUpTo c ts i) ∧ ∃ w4 w5 w6, σ' = [some (.ref p), some v1, some v2, some (.ref tl), w4, w5, w6])
      (fun G5 H5 s5 => ⟨(S1.then s5).g, (S1.then s5).d, (s5.keep tl4 tx).1, ⟨[], (s5.keep tl4 tx).2, rfl⟩, _, _, _, rfl⟩) ?_ ?_
    · rintro Gw ew i hi σ' G' H' S' ew' ⟨gp', dc', tg', ⟨vs, tx', hvs⟩, w4, w5, w6, rfl⟩ G5 H5 us s5 ru
      obtain ⟨a, rfl, ra⟩ := ru.one
      cases ra
      have S5 : Sd p G H G5 H5 := (Sd.mk S' gp' dc').then s5
      obtain ⟨tg5, tx5⟩ := s5.keep tg' tx'
      refine qr_asg' (K := K) (R := Btw 2 1000000) S5 (by walk_at "drw") fun v5 d5 G6 H6 s6 S6 ⟨often, hd5, hT1, hT2⟩ r5 => ?_
      subst hd5
      have z5 := r5.int_of
      subst z5
      obtain ⟨tg6, tx6⟩ := s6.keep tl3 tg5 tx5
      have e6 : Ex G G6 := ew.trans (ew'.trans (s5.g.trans s6.gg))
      have q1 := r1.ex e6
      have q2 := r2.ex e6
      have hk := try_at hi
      have htk := (ot.at hi).task
      have h20 : szOf c ts i ≤ 20 := Con.size_le20 oc htk
      refine s_for (K := K) (n := szOf c ts i) (js := [6]) (E := fun j => [.int j]) S6.s (i_rng1' (e_call (a_cons (by walk_at "ev") (a_one (e_ix (d1 := trD (tryAt ts i)) (e_ix (d1 := trsD ts) (i := i) (by walk_at "ev") (e_var rfl (.int _)) (at_mapL hk)) e_int rfl))) ⟨c, (tryAt ts i).2.1, rfl, oc, htk, rfl⟩) (by omega)) (fun i hi => g_name)
        (fun j σ' G' H' => G' p = none ∧ Dice p H' ∧ G' tl = none ∧ (∃ vs, H' tl = some (.dT (vkD vs)) ∧ vpos vs = trialsUpTo c ts i ++ (List.range j).map fun t => (i, t)) ∧ ∃ w6, σ' = [some (.ref p), some v1, some v2, some (.ref tl), some (.int i), some (.int often), w6])
        (fun G5 H5 s5 => ⟨(S6.then s5).g, (S6.then s5).d, (s5.keep tg6 tx6).1, ⟨vs, (s5.keep tg6 tx6).2, by rw [hvs]; exact (List.append_nil _).symm⟩, _, rfl⟩) ?_ ?_
      · rintro Gv ev j hj σ' G' H' S' ev' ⟨gp', dc', tg', ⟨vs, tx', hvs⟩, w6, rfl⟩ G7 H7 us s7 ru
        obtain ⟨a, rfl, ra⟩ := ru.one
        cases ra
        have S7 : Sd p G H G7 H7 := (Sd.mk S' gp' dc').then s7
        obtain ⟨tg7, tx7⟩ := s7.keep tg' tx'
        have hlen : (vkD vs).length ≤ 20 * ts.length := by
          have h1 := congrArg List.length hvs
          have h2 := trialsUpTo_len oc ot (i := i) (by omega)
          rw [List.length_append, List.length_map, List.length_range] at h1
          unfold vkD
          rw [List.length_map]
          unfold vpos at h1
          rw [List.length_map] at h1
          omega
        refine s_dputTR (K := K) (R := IsBl) (ks := [.inl i, .inl j]) S7.ii S7.g S7.d tl3 tg7 tx7 rfl (r_cmp (r_off rfl (r_n (n := often) (by walk_at "ev")) (by omega) (by omega)) (r_lit (by decide))) (fun d ⟨b, hd⟩ => by subst hd; rfl) (e_tup2 (e_var rfl (.int _)) (e_var rfl (.int _))) rfl (by omega) fun d G8 H8 s8 tg8 ⟨b, hd⟩ => ?_
        subst hd
        show ∃ G3, _
        rw [show (D.bl b).toV = V.bl b from rfl, vkD_put (by
          rw [hvs]
          intro h
          rcases List.mem_append.mp h with h | h
          · exact absurd (mem_trialsUpTo.mp h).1 (Nat.lt_irrefl _)
          · obtain ⟨t, h1, h2⟩ := List.mem_map.mp h
            injection h2 with _ h2
            subst h2
            exact absurd (List.mem_range.mp h1) (Nat.lt_irrefl _))]
        have S8 := (S7.trans s8).mut (o := .dT (vkD (vs ++ [(i, j, b)]))) tl3 tl2 tg8
        refine ⟨G8, S8.s, ev'.trans (s7.g.trans s8.gg), S8.g, S8.d, tg8, ⟨vs ++ [(i, j, b)], upd_same, ?_⟩, _, rfl⟩
        unfold vpos at hvs ⊢
        rw [List.map_append, hvs, List.range_succ, List.map_append, List.append_assoc]
        rfl
      · rintro σ' G' H' S' ev' ⟨gp', dc', tg', ⟨vs, tx', hvs⟩, w6, rfl⟩
        refine ⟨G', S', ew'.trans (s5.g.trans (s6.gg.trans ev')), gp', dc', tg', ⟨vs, tx', ?_⟩, _, _, _, rfl⟩
        rw [hvs, trialsUpTo_succ]
    · rintro σ' G' H' S' ew' ⟨gp', dc', tg', ⟨vs, tx', hvs⟩, w4, w5, w6, rfl⟩
      have S6 := (Sd.mk S' gp' dc').freeze tl3 tl2 tg' tx'
      exact ⟨_, rfl, q _ _ _ H' S6.s S6.g S6.d ⟨c, ts, vs, rfl, rfl, hvs⟩ (.tab upd_same)⟩

end

section
variable {P : Program} {w : World} {K : PySem.W.Frag} {mg : Str → Option Value} {base : Heap}
abbrev s__law_some : Stmt := top 51
abbrev N__law_some : List Str := ["_law_d", "_law_truth_here", "_law_often", "_law_found", "_law_spot"]
abbrev P__law_some : List Str := ["_law_d", "_law_truth_here", "_law_often"]
theorem sc__law_some : FnScope N__law_some P__law_some (defScope s__law_some) := ⟨rfl, rfl, rfl, by decide +kernel, rfl, by decide +kernel, by decide +kernel⟩

/-- pairs that stand rising -/
def Rise (l : List (Nat × Nat)) : Prop := l.Pairwise fun a b => a.1 < b.1 ∨ (a.1 = b.1 ∧ a.2 < b.2)
theorem Rise.nodup {l : List (Nat × Nat)} (h : Rise l) : l.Nodup := h.imp fun {a b} h z => by subst z; omega
theorem Rise.srtd {l : List (Nat × Nat)} (h : Rise l) : SrtO.Srtd lexB (l.map fun x => ((x.1 : Int), (x.2 : Int))) := by
  refine List.pairwise_map.mpr (h.imp fun {a b} h => SrtO.lexB_no.mpr ?_)
  show ¬ _
  omega
theorem valV_at {vs : List Ver} (h : (vpos vs).Nodup) {v : Ver} (hv : v ∈ vs) : valV (vkD vs) (verK v) = some (.bl v.2.2) := by
  induction vs with
  | nil => cases hv
  | cons u us ih =>
    unfold vkD
    rw [List.map_cons]
    by_cases z : u = v
    · subst z
      exact valV_pos rfl
    · have hm : v ∈ us := by
        cases hv with
        | head => exact absurd rfl z
        | tail _ h => exact h
      have h2 := List.nodup_cons.mp h
      rw [valV_neg (fun e => h2.1 (List.mem_map.mpr ⟨v, hm, (verK_inj e).symm⟩))]
      exact ih h2.2 hm
def Pre_some (ds : List D) : Prop := ∃ (vs : List Ver) (m : Nat), ds = [.tab (vkD vs), .int m] ∧ Rise (vpos vs) ∧ vs.length ≤ 100000 ∧ 0 < m ∧ m ≤ 1000000
def R_some (ds : List D) (es : List D) : Prop := ∃ (vs : List Ver) (m : Nat) (sub ws : List Ver), ds = [.tab (vkD vs), .int m] ∧ es = ws.map vrD ∧ sub.Sublist vs ∧ ws.Perm sub
abbrev sp__law_some (K : PySem.W.Frag) : Sp := spRF K Pre_some R_some
theorem perm_map_inv {α β : Type} {f : α → β} : ∀ {xs : List α} {ys : List β}, ys.Perm (xs.map f) → ∃ zs : List α, ys = zs.map f ∧ zs.Perm xs := by
  intro xs ys h
  generalize hl : xs.map f = l at h
  induction h generalizing xs with
  | nil =>
    cases xs with
    | nil => exact ⟨[], rfl, .nil⟩
    | cons _ _ => cases hl
  | cons x h ih =>
    cases xs with
    | nil => cases hl
    | cons a as =>
      injection hl with h1 h2
      obtain ⟨zs, e, p⟩ := ih h2
      exact ⟨a :: zs, by rw [List.map_cons, h1, e], p.cons a⟩
  | swap x y l =>
    match xs, hl with
    | a :: b :: as, hl =>
      injection hl with h1 h2
      injection h2 with h2 h3
      exact ⟨b :: a :: as, by rw [List.map_cons, List.map_cons, h1, h2, h3], .swap _ _ _⟩
  | trans h1 h2 ih1 ih2 =>
    obtain ⟨zs, e, p⟩ := ih2 hl
    obtain ⟨ws, e2, p2⟩ := ih1 e.symm
    exact ⟨ws, e2, p2.trans p⟩
theorem pick_sub {α : Type} {xs : List α} {b : Nat → Bool} {f : α → D} {g : Nat → D} (hg : ∀ i x, xs[i]? = some x → g i = f x) : ∃ sub : List α, sub.Sublist xs ∧ pick xs.length b g = sub.map f := by
  refine ⟨((List.range xs.length).filter b).filterMap fun i => xs[i]?, ?_, ?_⟩
  · have h : (List.range xs.length).filterMap (fun i => xs[i]?) = xs := by
      have h2 : (List.range xs.length).map (fun i => xs[i]?) = xs.map some := by
        apply List.ext_getElem?
        intro i
        rw [List.getElem?_map, List.getElem?_map]
        by_cases hi : i < xs.length
        · rw [List.getElem?_range hi, List.getElem?_eq_getElem hi]
          show some (xs[i]?) = some (some xs[i])
          rw [List.getElem?_eq_getElem hi]
        · rw [List.getElem?_eq_none (by rw [List.length_range]; omega), List.getElem?_eq_none (by omega)]
          rfl
      have h3 : (List.range xs.length).filterMap (fun i => xs[i]?) = ((List.range xs.length).map fun i => xs[i]?).filterMap id := by rw [List.filterMap_map]; rfl
      rw [h3, h2, List.filterMap_map]
      exact List.filterMap_some
    have h4 := (List.filter_sublist (l := List.range xs.length) (p := b)).filterMap (fun i => xs[i]?)
    rw [h] at h4
    exact h4
  · unfold pick
    rw [List.map_filterMap]
    have : ∀ l : List Nat, (∀ i ∈ l, i < xs.length) → l.map g = l.filterMap fun i => (xs[i]?).map f := by
      intro l hl
      induction l with
      | nil => rfl
      | cons i l ih =>
        have hi := hl i List.mem_cons_self
        rw [List.map_cons, List.filterMap_cons, List.getElem?_eq_getElem hi, ih fun j hj => hl j (List.mem_cons_of_mem _ hj), hg i _ (List.getElem?_eq_getElem hi)]
        rfl
    exact this _ fun i hi => List.mem_range.mp (List.mem_filter.mp hi).1
theorem ok__law_some {f : Addr} {fd : FuncData} (F : Fun K "_law_some" "_law_some" s__law_some f fd) (T : Tx K mg) (d__law_mixed : Dk P w K mg base 2 "_law_mixed" P__law_mixed (sp__law_mixed K)) (d__law_off : Dk P w K mg base 1 "_law_off" P__law_off (sp__law_off K)) : FnOk P w K mg base CX0 3 f fd P__law_some (sp__law_some K) := by
  refine F.ok sc__law_some (fun vs H Q E h => ?_) (fun cdv A outer s H vs Q E hr h => ?_)
  · obtain ⟨p, ws, G, ds, rfl, e, gp, dc, ra, ⟨vs, m, rfl, hr', hlen, hm0, hm1⟩, q⟩ := h
    exact congrArg (· + 1) ra.len
  · obtain ⟨p, ws, G, ds, rfl, e, gp, dc, ra, ⟨vs, m, rfl, hr', hlen, hm0, hm1⟩, q⟩ := h
    obtain ⟨v1, v2, rfl, r1, r2⟩ := ra.two
    refine ⟨_, (pss_cons (ps_setLc (i := 3) (own := [("_law_spot", 4)]) (g := gName 4) (tt := _) rfl sc__law_some.nd rfl rfl (sw_true rfl rfl rfl (by decide +kernel)) (pi_seqK K rfl (pe_callB (cr_sortedDT rfl) (by rfl) T.n_sorted (by decide +kernel) (pa_cons (pv 1) pa_nil))) (blkOk_by (own := [("_law_spot", 4)]) (N := N__law_some) (sc := defScope s__law_some) (by decide +kernel)) (fun _ _ _ _ _ => (pg_name (i := 4) sc__law_some.nd rfl (by first | exact Or.inl rfl | exact Or.inr rfl))) (fun _ _ _ _ _ => (pts_one (pt_cmpR op_gt (pe_fn d__law_off (hr.mono (by decide)) (by rfl) (pa_cons (pv 0) (pa_cons (pv 2) pa_nil))) pe_int (nomark _)))) (fun _ _ _ _ _ => (pe_op (op_addK K rfl) (pv 4) (pe_tup (pa_cons (pe_dget (hu_of hr) (pv 1) (pv 4) (fun _ _ => rfl)) pa_nil)))))
    (pss_one (ps_ret (pe_fn d__law_mixed (hr.mono (by decide)) (by rfl) (pa_cons (pv 0) (pa_cons (pv 3) pa_nil)))))), ?_⟩
    try dsimp only [cxOf, Cx.nox, Cx.wish]
    have S0 := Sd.refl e gp dc
    have hpl : (vpos vs).length = vs.length := List.length_map _
    refine qrf_asg (K := K) S0 (f_lcR (K := K) (n := vs.length) (js := [4]) (fun i => [nth (((vpos vs).map fun x => ((x.1 : Int), (x.2 : Int))).map fun k => D.tup [.int k.1, .int k.2]) i]) (fun i => nth (vs.map vrD) i)
      (i_seqL' (by rw [List.length_map, List.length_map, hpl]) (EvF.toD (f_sortedDT (kvs := vkD vs) (ks := (vpos vs).map fun x => ((x.1 : Int), (x.2 : Int))) (by walk_at "ev") ?_ hr'.srtd)))
      (fun i hi => g_name) (by omega) (fun _ _ => rfl) (fun us h => match us, h with | [_], _ => rfl) (fun i hi G1 e1 us ru => ?_) (fun i hi G1 e1 us ru => ?_)) fun ql xs ds G1 H1 S1 q1 q2 q3 ⟨b, hb⟩ rx => ?_
    · unfold vkD vpos
      rw [List.map_map, List.map_map, List.map_map]
      rfl
    · obtain ⟨y, rfl, ry⟩ := ru.one
      exact br_test (r_cmp (r_off rfl (r_n (n := m) (e_var rfl (r2.ex e1))) (by omega) (by omega)) (r_lit (by decide)))
    · obtain ⟨y, rfl, ry⟩ := ru.one
      have hv : vs[i]? = some vs[i] := List.getElem?_eq_getElem hi
      have e2 : nth (((vpos vs).map fun x => ((x.1 : Int), (x.2 : Int))).map fun k => D.tup [.int k.1, .int k.2]) i = .tup [.int vs[i].1, .int vs[i].2.1] := by
        refine nth_of ?_
        unfold vpos
        rw [List.getElem?_map, List.getElem?_map, List.getElem?_map, hv]
        rfl
      rw [e2] at ry
      rw [nth_map hv]
      exact e_catT (ds := [.int vs[i].1, .int vs[i].2.1]) (es := [.bl vs[i].2.2]) (e_var rfl ry) (e_tup1 (e_dget (kvs := vkD vs) (ks := verK vs[i]) (e_var rfl (r1.ex e1)) (e_var rfl ry) rfl (valV_at hr'.nodup (List.getElem_mem hi)) rfl)) (fun z => nomatch z) (fun z => nomatch z) (by show 2 + 1 ≤ 1000000; decide)
    · obtain ⟨sub, hs, hp⟩ := pick_sub (xs := vs) (b := b) (f := vrD) (g := fun i => nth (vs.map vrD) i) fun i x hx => nth_map hx
      rw [hp] at hb
      subst hb
      have n1 := dc.ne q1
      have S2 := S1.freeze n1 q1 q2 q3
      have hsl := hs.length_le
      refine srf_ret (K := K) S2 (rf_call1 rfl (a_one (e_var (d := .lst (sub.map vrD)) rfl (.lst upd_same (rx.ex (Ex.new q2))))) ⟨sub.map vrD, rfl, fun x hx => ?_, by rw [List.length_map]; omega⟩) fun q' xs' ds' G2 H2 S3 a1 a2 a3 ⟨xs0, e0, pm⟩ r3 => ?_
      · obtain ⟨v, _, rfl⟩ := List.mem_map.mp hx
        rfl
      · injection e0 with e0
        injection e0 with e0
        subst e0
        obtain ⟨ws, e1, pm2⟩ := perm_map_inv pm
        exact q q' xs' ds' G2 H2 S3 a1 a2 a3 ⟨vs, m, sub, ws, rfl, e1, hs, pm2⟩ r3

end

section
variable {P : Program} {w : World} {K : PySem.W.Frag} {mg : Str → Option Value} {base : Heap}
abbrev s__law_is_whole : Stmt := top 54
abbrev N__law_is_whole : List Str := ["_law_states", "_law_state"]
abbrev P__law_is_whole : List Str := ["_law_states"]
theorem sc__law_is_whole : FnScope N__law_is_whole P__law_is_whole (defScope s__law_is_whole) := ⟨rfl, rfl, rfl, by decide +kernel, rfl, by decide +kernel, by decide +kernel⟩

def R_is_whole (ds : List D) (r : D) : Prop := ∃ ss : List Sta, ds = [.lst (ss.map stD)] ∧ ss.length ≤ 100000 ∧ r = .bl (ss.all fun s => decide (s = .passed))
abbrev sp__law_is_whole (K : PySem.W.Frag) : Sp := spP K R_is_whole
theorem whole_nil : ∀ ss : List Sta, (((ss.filter fun s => !decide (s = .passed)).map stD).isEmpty) = ss.all fun s => decide (s = .passed)
  | [] => rfl
  | s :: ss => by
    have ih := whole_nil ss
    cases s
    · exact ih
    · rfl
    · rfl
theorem ok__law_is_whole {f : Addr} {fd : FuncData} (F : Fun K "_law_is_whole" "_law_is_whole" s__law_is_whole f fd) (T : Tx K mg) : FnOk P w K mg base CX0 1 f fd P__law_is_whole (sp__law_is_whole K) := by
  refine F.ok sc__law_is_whole (fun vs H Q E h => ?_) (fun cdv A outer s H vs Q E hr h => ?_)
  · obtain ⟨G, ds, r, e, ra, ⟨ss, rfl, hlen, rfl⟩, q⟩ := h
    exact ra.len
  · obtain ⟨G, ds, r, e, ra, ⟨ss, rfl, hlen, rfl⟩, q⟩ := h
    obtain ⟨v0, rfl, r0⟩ := ra.one
    refine ⟨_, (pss_one (ps_ret (pe_cmpR (op_eqK K rfl hr.units) (pe_lc (own := [("_law_state", 1)]) (g := gName 1) (tt := _) rfl sc__law_is_whole.nd (pi_seqK K rfl (pv 0)) (blkOk_by (own := [("_law_state", 1)]) (N := N__law_is_whole) (sc := defScope s__law_is_whole) (by decide +kernel)) (fun _ _ _ _ _ => (pg_name (i := 1) sc__law_is_whole.nd rfl (by first | exact Or.inl rfl | exact Or.inr rfl))) (fun _ _ _ _ _ => (pts_one (pt_cmpR (op_neK K rfl hr.units) (pv 1) pe_str (nomark _)))) (fun _ _ _ _ _ => (pv 1))) (pe_lst pa_nil) (nomark _)))), ?_⟩
    try dsimp only [cxOf, Cx.nox, Cx.wish]
    refine s_ret (d := .bl (ss.all fun s => decide (s = .passed))) e ?_ q
    refine EvD.bl (e_eqD (d1 := .lst ((ss.filter fun s => !decide (s = .passed)).map stD)) (EvF.toD (f_lcm (xs := ss) (Y := nth (ss.map stD)) (js := [1]) (fun _ s => [stD s]) (fun s => !decide (s = .passed)) stD
      (i_seqL' (List.length_map _) (by walk_at "ev")) (fun i x hx => by rw [nth_map hx]; exact g_name) (by omega) (fun _ _ _ => rfl) (fun us h => match us, h with | [_], _ => rfl) (fun i x hx G6 e6 us ru => ?_) (fun i x hx _ G6 e6 us ru => ?_)))
      (EvF.toD (f_lst a_nil (by decide))) (ok_lows fun d hd => ?_) rfl) ?_
    · obtain ⟨y, rfl, ry⟩ := ru.one
      exact b_test (EvD.bl (e_ne (d1 := stD x) (d2 := stD .passed) (e_var rfl ry) e_str rfl) (congrArg not (st_eq _ _)))
    · obtain ⟨y, rfl, ry⟩ := ru.one
      exact e_var rfl ry
    · obtain ⟨s, _, rfl⟩ := List.mem_map.mp hd
      cases s <;> decide +kernel
    · rw [eqv_nil, whole_nil]

end

section
variable {P : Program} {w : World} {K : PySem.W.Frag} {mg : Str → Option Value} {base : Heap}
abbrev s__law_case : Stmt := top 53
abbrev N__law_case : List Str := ["_law_d", "_law_rules", "_law_most", "_law_contest_here", "_law_tries_here"]
abbrev P__law_case : List Str := ["_law_d", "_law_rules", "_law_most"]
theorem sc__law_case : FnScope N__law_case P__law_case (defScope s__law_case) := ⟨rfl, rfl, rfl, by decide +kernel, rfl, by decide +kernel, by decide +kernel⟩

def Pre_case (ds : List D) : Prop := ∃ (rs : List Str) (m : Nat), ds = [.lst (rs.map D.str), .int m] ∧ (0 < rs.length ∧ rs.length ≤ 1000 ∧ ∀ r ∈ rs, r = sFirst ∨ r = sBest ∨ r = sGroups) ∧ m ≤ 200
def R_case (ds : List D) (d : D) : Prop := ∃ (rs : List Str) (m : Nat) (c : Con) (ts : List Try) (vs : List Ver), ds = [.lst (rs.map D.str), .int m] ∧ d = .tup [c.d, trsD ts, .tab (vkD vs)] ∧ c.Ok ∧ c.rule ∈ rs ∧ TriesOk c ts ∧ ts.length ≤ m ∧ vpos vs = allTr c ts
abbrev sp__law_case (K : PySem.W.Frag) : Sp := spR K Pre_case R_case
theorem map_inj' {α β : Type} {f : α → β} (hf : ∀ a b, f a = f b → a = b) : ∀ {xs ys : List α}, xs.map f = ys.map f → xs = ys
  | [], [], _ => rfl
  | [], _ :: _, h => nomatch h
  | _ :: _, [], h => nomatch h
  | x :: xs, y :: ys, h => by
    rw [List.map_cons, List.map_cons] at h
    injection h with h1 h2
    rw [hf x y h1, map_inj' hf h2]
theorem dint_inj {a b : Nat} (h : D.int a = D.int b) : a = b := by
  injection h with h
  omega
theorem gD_inj (a b : Nat × Nat) (h : gD a = gD b) : a = b := by
  injection h with h
  injection h with h1 h
  injection h with h2 h
  exact Prod.ext (dint_inj h1) (dint_inj h2)
theorem tkD_inj (a b : List (Nat × Nat) × Nat) (h : tkD a = tkD b) : a = b := by
  injection h with h
  injection h with h1 h
  injection h with h2 h
  injection h1 with h1
  exact Prod.ext (map_inj' gD_inj h1) (dint_inj h2)
theorem Con.d_inj {a b : Con} (h : a.d = b.d) : a = b := by
  obtain ⟨a1, a2, a3, a4, a5⟩ := a
  obtain ⟨b1, b2, b3, b4, b5⟩ := b
  injection h with h
  injection h with h1 h
  injection h with h2 h
  injection h with h3 h
  injection h with h4 h
  injection h with h5 h
  injection h1 with h1
  injection h5 with h5
  have h1 : a1 = b1 := h1
  have e2 : a2 = b2 := dint_inj h2
  have e3 : a3 = b3 := dint_inj h3
  have e4 : a4 = b4 := dint_inj h4
  have e5 : a5 = b5 := map_inj' tkD_inj h5
  subst h1 e2 e3 e4 e5
  rfl
theorem trD_inj (a b : Try) (h : trD a = trD b) : a = b := by
  obtain ⟨a1, a2, a3⟩ := a
  obtain ⟨b1, b2, b3⟩ := b
  injection h with h
  injection h with h1 h
  injection h with h2 h
  injection h with h3 h
  have e1 : a1 = b1 := dint_inj h1
  have e2 : a2 = b2 := dint_inj h2
  have e3 : a3 = b3 := dint_inj h3
  subst e1 e2 e3
  rfl
theorem trsD_inj {a b : List Try} (h : trsD a = trsD b) : a = b := by
  injection h with h
  exact map_inj' trD_inj h
theorem Con.args_inj {a b : Con} {xs ys : List D} (h : a.d :: xs = b.d :: ys) : a = b ∧ xs = ys := by
  injection h with h1 h2
  exact ⟨Con.d_inj h1, h2⟩
theorem rs_inj {rs rs' : List Str} {xs ys : List D} (h : D.lst (rs.map D.str) :: xs = D.lst (rs'.map D.str) :: ys) : rs = rs' := by
  injection h with h1 h2
  injection h1 with h1
  exact map_inj' (fun a b h => by injection h) h1
theorem ok__law_case {f : Addr} {fd : FuncData} (F : Fun K "_law_case" "_law_case" s__law_case f fd) (T : Tx K mg) (d__law_contest : Dk P w K mg base 2 "_law_contest" P__law_contest (sp__law_contest K)) (d__law_tries : Dk P w K mg base 2 "_law_tries" P__law_tries (sp__law_tries K)) (d__law_truth : Dk P w K mg base 2 "_law_truth" P__law_truth (sp__law_truth K)) : FnOk P w K mg base CX0 3 f fd P__law_case (sp__law_case K) := by
  refine F.ok sc__law_case (fun vs H Q E h => ?_) (fun cdv A outer s H vs Q E hr h => ?_)
  · obtain ⟨p, ws, G, ds, rfl, e, gp, dc, ra, ⟨rs, m, rfl, hrs, hm⟩, q⟩ := h
    exact congrArg (· + 1) ra.len
  · obtain ⟨p, ws, G, ds, rfl, e, gp, dc, ra, ⟨rs, m, rfl, hrs, hm⟩, q⟩ := h
    obtain ⟨v1, v2, rfl, r1, r2⟩ := ra.two
    refine ⟨_, (pss_cons (ps_set (i := 3) sc__law_case.nd rfl (by first | exact Or.inl rfl | exact Or.inr rfl) (pe_fn d__law_contest (hr.mono (by decide)) (by rfl) (pa_cons (pv 0) (pa_cons (pv 1) pa_nil))))
    (pss_cons (ps_set (i := 4) sc__law_case.nd rfl (by first | exact Or.inl rfl | exact Or.inr rfl) (pe_fn d__law_tries (hr.mono (by decide)) (by rfl) (pa_cons (pv 0) (pa_cons (pv 3) (pa_cons (pv 2) pa_nil)))))
    (pss_one (ps_ret (pe_tup (pa_cons (pv 3) (pa_cons (pv 4) (pa_cons (pe_fn d__law_truth (hr.mono (by decide)) (by rfl) (pa_cons (pv 0) (pa_cons (pv 3) (pa_cons (pv 4) pa_nil)))) pa_nil)))))))), ?_⟩
    try dsimp only [cxOf, Cx.nox, Cx.wish]
    have S0 := Sd.refl e gp dc
    have z2 := r2.int_of
    subst z2
    refine qr_asg' (K := K) S0 (r_call1 rfl (a_one (e_var rfl r1)) ⟨rs, rfl, hrs⟩) fun v3 d3 G1 H1 s1 S1 ⟨rs', c, e1, hd3, oc, hrule⟩ r3 => ?_
    subst hd3
    have e1 := rs_inj e1
    subst e1
    refine qrf_asg (K := K) S1 (rf_call1 rfl (a_cons (e_var rfl r3) (a_one (e_var rfl (.int _)))) ⟨c, m, rfl, oc, hm⟩) fun tl xs ds G2 H2 s2 t1 t2 t3 ⟨c', m', ts, e2, e3, ot, hl⟩ rx => ?_
    obtain ⟨rfl, f2⟩ := Con.args_inj e2
    have g2 : m = m' := by injection f2 with f2; exact dint_inj f2
    subst g2 e3
    have n2 := S1.d.ne t1
    have S2 := (S1.trans s2).freeze n2 (S1.pre t1 n2) t2 t3
    have rt : Rp K (upd G2 tl (.lst xs)) (.ref tl) (trsD ts) := .lst upd_same (rx.ex (Ex.new t2))
    have rc : Rp K (upd G2 tl (.lst xs)) v3 c.d := r3.ex (s2.gg.trans (Ex.new t2))
    refine sr_ret' (K := K) (R := R_case [.lst (rs.map D.str), .int m]) S2 (r_tup (rs_cons (RA := fun d => d = c.d) (r_of (e_var rfl rc) rfl) (rs_cons (RA := fun d => d = trsD ts) (r_of (e_var rfl rt) rfl)
      (rs_one (r_call1 rfl (a_cons (e_var rfl rc) (a_one (e_var rfl rt))) ⟨c, ts, rfl, oc, ot⟩) (Rs := fun ds => ∃ vs, ds = [.tab (vkD vs)] ∧ vpos vs = allTr c ts) fun d ⟨c', ts', vs, e5, e6, e7⟩ => ?_) (Rs := fun ds => ∃ vs, ds = [trsD ts, .tab (vkD vs)] ∧ vpos vs = allTr c ts) fun d ds e5 ⟨vs, e6, e7⟩ => ?_) fun d ds e5 ⟨vs, e6, e7⟩ => ?_)) fun v d G3 H3 S3 hR rv => q v d G3 H3 S3.s S3.g S3.d hR rv
    · obtain ⟨rfl, f5⟩ := Con.args_inj e5
      have g5 : ts = ts' := by injection f5 with f5; exact trsD_inj f5
      subst g5 e6
      exact ⟨vs, rfl, e7⟩
    · subst e5 e6
      exact ⟨vs, rfl, e7⟩
    · subst e5 e6
      exact ⟨(by show 3 ≤ 1000; decide), rs, m, c, ts, vs, rfl, rfl, oc, hrule, ot, hl, e7⟩

end

section
variable {P : Program} {w : World} {K : PySem.W.Frag} {mg : Str → Option Value} {base : Heap}
abbrev s__law_matter : Stmt := top 52
abbrev N__law_matter : List Str := ["_law_contest_here", "_law_tries_here", "_law_verdicts", "_law_told", "_law_solved", "_law_found", "_law_number", "_law_size_here", "_law_mine", "_law_states", "_law_here", "_law_many", "_law_points", "_law_some_here", "_law_is_late", "_law_skips", "_law_trial", "_law_g", "_law_k", "_law_verdict"]
abbrev P__law_matter : List Str := ["_law_contest_here", "_law_tries_here", "_law_verdicts"]
theorem sc__law_matter : FnScope N__law_matter P__law_matter (defScope s__law_matter) := ⟨rfl, rfl, rfl, by decide +kernel, rfl, by decide +kernel, by decide +kernel⟩

def solv (c : Con) (ts : List Try) (tb : Nat → Nat → Option Bool) (i a b : Nat) : Bool := (List.range i).any fun j => isOf a b c.fin (tryAt ts j) && decide (tSt c ts tb j = .passed)
def skipsM (c : Con) (ts : List Try) (tb : Nat → Nat → Option Bool) (n : Nat) : Bool :=
  decide (c.fin ≤ (tryAt ts n).2.2) || (decide (c.rule = sFirst) && (decide (Sta.failed ∈ gSts (gsOf c ts n) (tb n)) || solv c ts tb n (tryAt ts n).1 (tryAt ts n).2.1))
theorem try_failed (ss : List Sta) : trySt ss = .failed ↔ Sta.failed ∈ ss := by
  unfold trySt
  by_cases h : Sta.failed ∈ ss
  · simp [h]
  · rw [if_neg h]
    refine ⟨fun z => ?_, fun z => absurd z h⟩
    split at z <;> cases z
theorem try_passed (ss : List Sta) : decide (trySt ss = .passed) = ss.all fun s => decide (s = .passed) := by
  rw [Bool.eq_iff_iff, decide_eq_true_eq, List.all_eq_true]
  unfold trySt
  constructor
  · intro z s hs
    refine decide_eq_true ?_
    by_cases h : Sta.failed ∈ ss
    · rw [if_pos h] at z; cases z
    · rw [if_neg h] at z
      by_cases h2 : Sta.opened ∈ ss
      · rw [if_pos h2] at z; cases z
      · cases s with
        | passed => rfl
        | failed => exact absurd hs h
        | opened => exact absurd hs h2
  · intro z
    rw [if_neg (fun h => absurd (of_decide_eq_true (z _ h)) (by decide)), if_neg (fun h => absurd (of_decide_eq_true (z _ h)) (by decide))]
theorem nums_any {ts : List Try} {a b f n : Nat} (hn : n ≤ ts.length) (q : Nat → Bool) : (((numsOf ts a b f).filter fun k => decide (k < n)).any q) = (List.range n).any fun j => isOf a b f (tryAt ts j) && q j := by
  rw [Bool.eq_iff_iff, List.any_eq_true, List.any_eq_true]
  unfold numsOf
  constructor
  · rintro ⟨x, hx, hq⟩
    obtain ⟨h1, h2⟩ := List.mem_filter.mp hx
    obtain ⟨h3, h4⟩ := List.mem_filter.mp h1
    exact ⟨x, List.mem_range.mpr (of_decide_eq_true h2), by rw [h4, hq]; rfl⟩
  · rintro ⟨x, hx, hq⟩
    obtain ⟨h1, h2⟩ := (Bool.and_eq_true _ _).mp hq
    have hx := List.mem_range.mp hx
    exact ⟨x, List.mem_filter.mpr ⟨List.mem_filter.mpr ⟨List.mem_range.mpr (by omega), h1⟩, decide_eq_true hx⟩, h2⟩
theorem over_skips {c : Con} {ts : List Try} {tb : Nat → Nat → Option Bool} {n : Nat} (hn : n ≤ ts.length) : isOver c ts tb n = skipsM c ts tb n := by
  unfold isOver skipsM solv
  have h : decide (tSt c ts tb n = .failed) = decide (Sta.failed ∈ gSts (gsOf c ts n) (tb n)) := dec_iff (try_failed _)
  rw [nums_any hn, h]
theorem solv_succ (c : Con) (ts : List Try) (tb : Nat → Nat → Option Bool) (i a b : Nat) : solv c ts tb (i + 1) a b = (solv c ts tb i a b || (isOf a b c.fin (tryAt ts i) && decide (tSt c ts tb i = .passed))) := by
  unfold solv
  rw [List.range_succ, List.any_append, List.any_cons, List.any_nil, Bool.or_false]
def openK (gs : List (Nat × Nat)) (f : Nat → Option Bool) (g k : Nat) : List Nat := if gSt gs f g = .failed then [] else ((List.range k).filter fun j => (f (pre gs g + j)).isNone).map fun j => pre gs g + j
def fnd (sk : Bool) (gs : List (Nat × Nat)) (f : Nat → Option Bool) (g k : Nat) : List Nat := if sk = true then [] else openTo gs f g ++ openK gs f g k
theorem openK_zero (gs : List (Nat × Nat)) (f : Nat → Option Bool) (g : Nat) : openK gs f g 0 = [] := by
  unfold openK
  split <;> rfl
theorem fnd_next (sk : Bool) (gs : List (Nat × Nat)) (f : Nat → Option Bool) (g : Nat) : fnd sk gs f g (grp gs g).1 = fnd sk gs f (g + 1) 0 := by
  unfold fnd
  rw [openK_zero, openTo_succ, List.append_nil]
  rfl
theorem fnd_len {sk : Bool} {gs : List (Nat × Nat)} {f : Nat → Option Bool} {g k : Nat} (h : g ≤ gs.length) : (fnd sk gs f g k).length ≤ pre gs g + k := by
  unfold fnd
  split
  · exact Nat.zero_le _
  · rw [List.length_append]
    have h1 := openTo_len (f := f) h
    have h2 : (openK gs f g k).length ≤ k := by
      unfold openK
      split
      · exact Nat.zero_le _
      · rw [List.length_map]
        have := List.length_filter_le (fun j => (f (pre gs g + j)).isNone) (List.range k)
        rw [List.length_range] at this
        exact this
    omega
theorem fnd_yes {sk : Bool} {gs : List (Nat × Nat)} {f : Nat → Option Bool} {g k : Nat} (h : (!sk && (!decide (gSt gs f g = .failed) && (f (pre gs g + k)).isNone)) = true) : fnd sk gs f g (k + 1) = fnd sk gs f g k ++ [pre gs g + k] := by
  simp only [Bool.and_eq_true, Bool.not_eq_true', decide_eq_false_iff_not] at h
  obtain ⟨h1, h2, h3⟩ := h
  subst h1
  unfold fnd openK
  rw [if_neg Bool.false_ne_true, if_neg Bool.false_ne_true, if_neg h2, if_neg h2, List.range_succ, List.filter_append, List.map_append, List.append_assoc, List.filter_cons, if_pos h3]
  rfl
theorem fnd_no {sk : Bool} {gs : List (Nat × Nat)} {f : Nat → Option Bool} {g k : Nat} (h : (!sk && (!decide (gSt gs f g = .failed) && (f (pre gs g + k)).isNone)) = false) : fnd sk gs f g (k + 1) = fnd sk gs f g k := by
  unfold fnd openK
  by_cases h1 : sk = true
  · rw [if_pos h1, if_pos h1]
  by_cases h2 : gSt gs f g = .failed
  · rw [if_pos h2, if_pos h2]
  rw [if_neg h1, if_neg h1, if_neg h2, if_neg h2, List.range_succ, List.filter_append, List.filter_cons, if_neg (fun h3 => by
    have h1 : sk = false := by simpa using h1
    rw [h1, h3, decide_eq_false h2] at h
    cases h), List.filter_nil, List.append_nil]
theorem openTr_fnd {c : Con} {ts : List Try} {tb : Nat → Nat → Option Bool} {n : Nat} (hn : n ≤ ts.length) : openTr c ts tb n = fnd (skipsM c ts tb n) (gsOf c ts n) (tb n) (gsOf c ts n).length 0 := by
  unfold openTr fnd
  rw [openK_zero, List.append_nil, over_skips hn]
theorem b_isN {te : TE} {σ : L2.St} {G : Hp} {b : Option Bool} (h : EvD K te σ G (obD b)) : EvB (tTest (tOp (fun x y H Q => y = .non ∧ Q (.bl (decide (x = .non))) H) te (tC .non))) σ G b.isNone := b_test (e_isN h (by cases b <;> rfl))
def SolOk (kvs : List (List Key × V)) (f : Nat → Nat → Bool) : Prop := ∀ a b : Nat, (valV kvs [.inl a, .inl b]).isSome = f a b
def mineD (tb : Nat → Nat → Option Bool) (n s : Nat) : List D := (List.range s).map fun j => obD (tb n j)
theorem mine_cut {tb : Nat → Nat → Option Bool} {n s a k : Nat} (h : a + k ≤ s) : cutD (mineD tb n s) (some ((a : Nat) : Int)) (some ((a : Nat) + ((k : Nat) : Int))) = ((List.range k).map fun j => tb n (a + j)).map obD := by
  unfold cutD mineD
  have e : ((a : Nat) : Int) + ((k : Nat) : Int) = ((a + k : Nat) : Int) := by omega
  rw [List.length_map, List.length_range, e, HT.sIx_nat, HT.sIx_nat, Nat.min_eq_left (show a ≤ s by omega), Nat.min_eq_left h]
  apply List.ext_getElem?
  intro i
  rw [List.getElem?_take, List.map_map, List.getElem?_map]
  by_cases hi : i < k
  · rw [if_pos (by omega), List.getElem?_drop, List.getElem?_map, List.getElem?_range (by omega), List.getElem?_range hi]
    rfl
  · rw [if_neg (by omega), List.getElem?_eq_none (by rw [List.length_range]; omega)]
    rfl
def R_law_matter (ds : List D) (r : List D) : Prop := ∃ (c : Con) (ts : List Try) (vs : List Ver), ds = [c.d, trsD ts, vrsD vs] ∧ c.Ok ∧ TriesOk c ts ∧ VersOk c ts vs ∧ vs.length ≤ 100000 ∧ r = (allOpen c ts (tbOf vs)).map prD
abbrev sp__law_matter (K : PySem.W.Frag) : Sp := spF K R_law_matter
theorem ok__law_matter {f : Addr} {fd : FuncData} (F : Fun K "_law_matter" "_law_matter" s__law_matter f fd) (T : Tx K mg) (d__law_is_whole : Dk P w K mg base 1 "_law_is_whole" P__law_is_whole (sp__law_is_whole K)) (d__law_size : Dk P w K mg base 1 "_law_size" P__law_size (sp__law_size K)) : FnOk P w K mg base CX0 2 f fd P__law_matter (sp__law_matter K) := by
  refine F.ok sc__law_matter (fun vs H Q E h => ?_) (fun cdv A outer s H vs Q E hr h => ?_)
  · obtain ⟨G, ds, r, e, ra, ⟨c, ts, vs, rfl, oc, ot, ov, hlen, rfl⟩, q⟩ := h
    exact ra.len
  · obtain ⟨G, ds, r, e, ra, ⟨c, ts, vs, rfl, oc, ot, ov, hlen, rfl⟩, q⟩ := h
    obtain ⟨v0, v1, v2, rfl, r0, r1, r2⟩ := ra.three
    refine ⟨_, (pss_cons (ps_set (i := 3) sc__law_matter.nd rfl (by first | exact Or.inl rfl | exact Or.inr rfl) (pe_callTy (call_dictK K rfl rfl hr.units) (by rfl) T.n_dict (by decide +kernel) (pa_cons (pe_lc (own := [("_law_verdict", 19)]) (g := gName 19) (tt := tYes) rfl sc__law_matter.nd (pi_seqK K rfl (pv 2)) (blkOk_by (own := [("_law_verdict", 19)]) (N := N__law_matter) (sc := defScope s__law_matter) (by decide +kernel)) (fun _ _ _ _ _ => (pg_name (i := 19) sc__law_matter.nd rfl (by first | exact Or.inl rfl | exact Or.inr rfl))) (fun _ _ _ _ _ => pts_nil) (fun _ _ _ _ _ => (pe_tup (pa_cons (pe_slice (sl_seqK K rfl) (pv 19) po_none (po_some pe_int)) (pa_cons (pe_ix (ix_seqK K rfl) (pv 19) pe_int (fun _ _ => rfl)) pa_nil))))) pa_nil)))
    (pss_cons (ps_set (i := 4) sc__law_matter.nd rfl (by first | exact Or.inl rfl | exact Or.inr rfl) pe_dnewT)
    (pss_cons (ps_set (i := 5) sc__law_matter.nd rfl (by first | exact Or.inl rfl | exact Or.inr rfl) (pe_lst pa_nil))
    (pss_cons (ps_for PassesOwn.never rfl (pi_range1 (by rfl) T.n_range (pa_cons (pe_callB (call_lenK K rfl) (by rfl) T.n_len (by decide +kernel) (pa_cons (pv 1) pa_nil)) pa_nil)) (pg_name (i := 6) sc__law_matter.nd rfl (by first | exact Or.inl rfl | exact Or.inr rfl)) (pss_cons (ps_set (i := 7) sc__law_matter.nd rfl (by first | exact Or.inl rfl | exact Or.inr rfl) (pe_fn d__law_size (hr.mono (by decide)) (by rfl) (pa_cons (pv 0) (pa_cons (pe_ix (ix_seqK K rfl) (pe_ix (ix_seqK K rfl) (pv 1) (pv 6) (fun _ _ => rfl)) pe_int (fun _ _ => rfl)) pa_nil))))
    (pss_cons (ps_setLc (i := 8) (own := [("_law_trial", 16)]) (g := gName 16) (tt := tYes) rfl sc__law_matter.nd rfl rfl (sw_true rfl rfl rfl (by decide +kernel)) (pi_range1 (by rfl) T.n_range (pa_cons (pv 7) pa_nil)) (blkOk_by (own := [("_law_trial", 16)]) (N := N__law_matter) (sc := defScope s__law_matter) (by decide +kernel)) (fun _ _ _ _ _ => (pg_name (i := 16) sc__law_matter.nd rfl (by first | exact Or.inl rfl | exact Or.inr rfl))) (fun _ _ _ _ _ => pts_nil) (fun _ _ _ _ _ => (pe_dget2 (hu_of hr) (pv 3) (pe_tup (pa_cons (pv 6) (pa_cons (pv 16) pa_nil))) pe_non ⟨rfl, rfl, rfl, rfl⟩)))
    (pss_cons (ps_set (i := 9) sc__law_matter.nd rfl (by first | exact Or.inl rfl | exact Or.inr rfl) (pe_lst pa_nil))
    (pss_cons (ps_set (i := 10) sc__law_matter.nd rfl (by first | exact Or.inl rfl | exact Or.inr rfl) pe_int)
    (pss_cons (ps_for PassesOwn.never rfl (pi_seqK K rfl (pe_ix (ix_seqK K rfl) (pe_ix (ix_seqK K rfl) (pe_ix (ix_seqK K rfl) (pv 0) pe_int (fun _ _ => rfl)) (pe_ix (ix_seqK K rfl) (pe_ix (ix_seqK K rfl) (pv 1) (pv 6) (fun _ _ => rfl)) pe_int (fun _ _ => rfl)) (fun _ _ => rfl)) pe_int (fun _ _ => rfl))) (pg_tup rfl (pgs_cons (pg_name (i := 11) sc__law_matter.nd rfl (by first | exact Or.inl rfl | exact Or.inr rfl)) (pgs_cons (pg_name (i := 12) sc__law_matter.nd rfl (by first | exact Or.inl rfl | exact Or.inr rfl)) pgs_nil))) (pss_cons (ps_set (i := 13) sc__law_matter.nd rfl (by first | exact Or.inl rfl | exact Or.inr rfl) (pe_slice (sl_seqK K rfl) (pv 8) (po_some (pv 10)) (po_some (pe_op (op_addK K rfl) (pv 10) (pv 11)))))
    (pss_cons (ps_expr (pe_bm PySem.F.plainAttrs_list PySem.F.slot_list_append PySem.F.type_list_append mt_append (pv 9) (pa_cons (pe_ifExp (pt_cmpR (op_inK K rfl) pe_bl (pv 13) (by rfl)) pe_str (pe_ifExp (pt_cmpR (op_inK K rfl) pe_non (pv 13) (by rfl)) pe_str pe_str)) pa_nil)))
    (pss_one (ps_set (i := 10) sc__law_matter.nd rfl (by first | exact Or.inl rfl | exact Or.inr rfl) (pe_op (op_addK K rfl) (pv 10) (pv 11)))))))
    (pss_cons (ps_set (i := 14) sc__law_matter.nd rfl (by first | exact Or.inl rfl | exact Or.inr rfl) (pe_cmpR op_ge (pe_ix (ix_seqK K rfl) (pe_ix (ix_seqK K rfl) (pv 1) (pv 6) (fun _ _ => rfl)) pe_int (fun _ _ => rfl)) (pe_ix (ix_seqK K rfl) (pv 0) pe_int (fun _ _ => rfl)) (nomark _)))
    (pss_cons (ps_set (i := 15) sc__law_matter.nd rfl (by first | exact Or.inl rfl | exact Or.inr rfl) (pe_or (pv 14) (pe_one (pe_and (pe_cmpR (op_eqK K rfl hr.units) (pe_ix (ix_seqK K rfl) (pv 0) pe_int (fun _ _ => rfl)) pe_str (nomark _)) (pe_one (pe_or (pe_cmpR (op_inK K rfl) pe_str (pv 9) (by rfl)) (pe_one (pe_cmp (pc_din (hu_of hr) (pe_slice (sl_seqK K rfl) (pe_ix (ix_seqK K rfl) (pv 1) (pv 6) (fun _ _ => rfl)) po_none (po_some pe_int)) (pv 4))))))))))
    (Evl.pss_cut (ps_if (PW.pt (pw_and (pt_val (pe_fn d__law_is_whole (hr.mono (by decide)) (by rfl) (pa_cons (pv 9) pa_nil))) (pw_and1 (pt_not (pt_val (pv 14)))))) (pss_one (ps_dput (hu_of hr) (pv 4) (pe_slice (sl_seqK K rfl) (pe_ix (ix_seqK K rfl) (pv 1) (pv 6) (fun _ _ => rfl)) po_none (po_some pe_int)) pe_bl rfl)) pss_nil)
    (pss_cons (ps_set (i := 16) sc__law_matter.nd rfl (by first | exact Or.inl rfl | exact Or.inr rfl) pe_int)
    (pss_one (ps_for PassesOwn.never rfl (pi_range1 (by rfl) T.n_range (pa_cons (pe_callB (call_lenK K rfl) (by rfl) T.n_len (by decide +kernel) (pa_cons (pv 9) pa_nil)) pa_nil)) (pg_name (i := 17) sc__law_matter.nd rfl (by first | exact Or.inl rfl | exact Or.inr rfl)) (pss_one (ps_for PassesOwn.never rfl (pi_range1 (by rfl) T.n_range (pa_cons (pe_ix (ix_seqK K rfl) (pe_ix (ix_seqK K rfl) (pe_ix (ix_seqK K rfl) (pe_ix (ix_seqK K rfl) (pe_ix (ix_seqK K rfl) (pv 0) pe_int (fun _ _ => rfl)) (pe_ix (ix_seqK K rfl) (pe_ix (ix_seqK K rfl) (pv 1) (pv 6) (fun _ _ => rfl)) pe_int (fun _ _ => rfl)) (fun _ _ => rfl)) pe_int (fun _ _ => rfl)) (pv 17) (fun _ _ => rfl)) pe_int (fun _ _ => rfl)) pa_nil)) (pg_name (i := 18) sc__law_matter.nd rfl (by first | exact Or.inl rfl | exact Or.inr rfl)) (Evl.pss_cut (ps_if (PW.pt (pw_and (pt_not (pt_val (pv 15))) (pw_and (pt_cmpR (op_neK K rfl hr.units) (pe_ix (ix_seqK K rfl) (pv 9) (pv 17) (fun _ _ => rfl)) pe_str (nomark _)) (pw_and1 (pt_cmpR op_isN (pe_ix (ix_seqK K rfl) (pv 8) (pv 16) (fun _ _ => rfl)) pe_non (nomark _)))))) (pss_one (ps_expr (pe_bm PySem.F.plainAttrs_list PySem.F.slot_list_append PySem.F.type_list_append mt_append (pv 5) (pa_cons (pe_tup (pa_cons (pv 6) (pa_cons (pv 16) pa_nil))) pa_nil)))) pss_nil)
    (pss_one (ps_set (i := 16) sc__law_matter.nd rfl (by first | exact Or.inl rfl | exact Or.inr rfl) (pe_op (op_addK K rfl) (pv 16) pe_int))))))))))))))))))
    (pss_one (ps_ret (pv 5))))))), ?_⟩
    try dsimp only [cxOf, Cx.nox, Cx.wish]
    have htab := tab_ver ov.once
    generalize hkvs : verT vs = kvs at htab
    generalize htb : tbOf vs = tb at htab q
    have hl := ot.len
    have htl : (ts.map trD).length = ts.length := List.length_map _
    -- told
    refine q_asg (K := K) (d := .tab kvs) e (EvD.eq (e_dictT (kvs := vs.map fun v => (verK v, .bl v.2.2)) (EvF.toD (f_lcm (xs := vs) (Y := nth (vs.map vrD)) (js := [19]) (fun _ v => [vrD v]) (fun _ => true) (fun v => .tup [.tup [.int v.1, .int v.2.1], .bl v.2.2])
      (i_seqL' (List.length_map _) (by walk_at "ev")) (fun i x hx => by rw [nth_map hx]; exact g_name) (by omega) (fun _ _ _ => rfl) (fun us h => match us, h with | [_], _ => rfl)
      (fun _ _ _ _ _ _ _ => b_yes) (fun i x hx _ G1 e1 us ru => ?_))) ?_ ?_) (congrArg D.tab hkvs)) fun v3 G1 H1 s1 r3 => ?_
    · obtain ⟨y, rfl, ry⟩ := ru.one
      exact e_tup2 (e_key (e_var rfl ry)) (e_ix (d1 := vrD x) (e_var rfl ry) e_int rfl)
    · rw [List.filter_eq_self.mpr (fun _ _ => rfl), List.map_map]
      rfl
    · intro kv hkv
      obtain ⟨v, _, rfl⟩ := List.mem_map.mp hkv
      rfl
    refine q_newT s1.i fun sl H2 hs2 gs2 s2 xs2 => ?_
    have S2 := s1.trans s2
    refine q_newL S2.i fun fl H3 hf3 gf3 s3 xf3 => ?_
    have S3 := S2.trans s3
    have nsf : sl ≠ fl := fun z => by rw [z, hf3] at xs2; cases xs2
    obtain ⟨gs3, xs3⟩ := s3.keep gs2 xs2
    have hs0 : H sl = none := s1.pre hs2
    have hf0 : H fl = none := S2.pre hf3
    refine q_for (K := K) (n := ts.length) (js := [6]) (E := fun i => [.int i]) S3 (i_rng1' (e_len (d := trsD ts) (e_var rfl (r1.ex S3.g)) (congrArg some htl)) (by omega)) (fun i hi => g_name)
      (fun i σ' G' H' => (G' sl = none ∧ ∃ kv2, H' sl = some (.dT kv2) ∧ SolOk kv2 (solv c ts tb i) ∧ kv2.length ≤ i) ∧ G' fl = none ∧ (∃ xs, H' fl = some (.lst xs) ∧ RpA K G' xs ((openUpTo c ts tb i).map prD)) ∧ ∃ w6 w7 w8 w9 w10 w11 w12 w13 w14 w15 w16 w17 w18 w19, σ' = [some v0, some v1, some v2, some v3, some (.ref sl), some (.ref fl), w6, w7, w8, w9, w10, w11, w12, w13, w14, w15, w16, w17, w18, w19])
      (fun G4 H4 s4 => ⟨⟨(s4.keep gs3 xs3).1, [], (s4.keep gs3 xs3).2, fun _ _ => rfl, Nat.le_refl _⟩, (s4.keep gf3 xf3).1, ⟨_, (s4.keep gf3 xf3).2, .nil⟩, _, _, _, _, _, _, _, _, _, _, _, _, _, _, rfl⟩) ?_ ?_
    · rintro Gw ew i hi σ' G' H' S' ew' ⟨⟨gs, kv2, xs', hsol, hkl⟩, gf, ⟨ys, xf, ry⟩, w6, w7, w8, w9, w10, w11, w12, w13, w14, w15, w16, w17, w18, w19, rfl⟩ G4 H4 us s4 ru
      obtain ⟨a, rfl, ra⟩ := ru.one
      cases ra
      have hk := try_at hi
      have ok := ot.at hi
      have hc := Con.task_at ok.task
      obtain ⟨o1, o2, o3, o4⟩ := Con.task_ok oc ok.task
      have o3 : (gsOf c ts i).length ≤ 4 := o3
      have hsz : sizeG (gsOf c ts i) ≤ 20 := Con.size_le20 oc ok.task
      obtain ⟨gs4, xs4⟩ := s4.keep gs xs'
      obtain ⟨gf4, xf4⟩ := s4.keep gf xf
      have S4 := S'.trans s4
      have eE : Ex G G4 := S4.g
      have e14 : Ex G1 G4 := ew.trans (ew'.trans s4.g)
      have q0 := r0.ex eE
      have q1 := r1.ex eE
      have q3 := r3.ex e14
      refine q_asg (K := K) (d := .int (sizeG (gsOf c ts i))) S4.i (e_call (a_cons (by walk_at "ev") (a_one (e_ix (d1 := trD (tryAt ts i)) (e_ix (d1 := trsD ts) (i := i) (by walk_at "ev") (e_var rfl (.int _)) (at_mapL hk)) e_int rfl))) ⟨c, (tryAt ts i).2.1, rfl, oc, ok.task, rfl⟩) fun v7 G5 H5 s5 r7 => ?_
      cases r7
      have S5 := S4.trans s5
      obtain ⟨gs5, xs5⟩ := s5.keep gs4 xs4
      obtain ⟨gf5, xf5⟩ := s5.keep gf4 xf4
      have q0 := q0.ex s5.g
      have q1 := q1.ex s5.g
      have q3 := q3.ex s5.g
      refine q_asg (K := K) (d := .lst (mineD tb i (sizeG (gsOf c ts i)))) S5.i (EvD.eq (EvF.toD (f_lc (n := sizeG (gsOf c ts i)) (js := [16]) (fun k => [.int k]) (fun _ => true) (fun k => obD (tb i k))
          (i_rng1' (e_var rfl (.int _)) (by omega)) (fun _ _ => g_name) (by omega) (fun _ _ => rfl)
          (fun us h => match us, h with | [_], _ => rfl) (fun _ _ _ _ _ _ => b_yes) (fun k hk' _ G4 e4 us ru => ?_))) ?_) fun v8 G6 H6 s6 r8 => ?_
      · obtain ⟨y, rfl, ry⟩ := ru.one
        cases ry
        exact EvD.eq (e_dget2 (ks := [.inl i, .inl k]) (e_var rfl (q3.ex e4)) (e_tup2 (e_var rfl (.int _)) (e_var rfl (.int _))) rfl e_non rfl (htab.scal i k)) (htab.get i k)
      · rw [pick_all]
        rfl
      have S6 := S5.trans s6
      obtain ⟨gs6, xs6⟩ := s6.keep gs5 xs5
      obtain ⟨gf6, xf6⟩ := s6.keep gf5 xf5
      have q0 := q0.ex s6.g
      have q1 := q1.ex s6.g
      have e46 : Ex G4 G6 := s5.g.trans s6.g
      refine q_newL S6.i fun zl H7 hz7 gz7 s7 xz7 => ?_
      refine q_asgC ?_
      have S7 := S6.trans s7
      have hz0 : H zl = none := S6.pre hz7
      obtain ⟨gs7, xs7⟩ := s7.keep gs6 xs6
      obtain ⟨gf7, xf7⟩ := s7.keep gf6 xf6
      have nsz : sl ≠ zl := fun z => by rw [z, hz7] at xs6; cases xs6
      have nfz : fl ≠ zl := fun z => by rw [z, hz7] at xf6; cases xf6
      refine q_for (K := K) (n := (gsOf c ts i).length) (js := [11, 12]) (E := fun g => [.int (grp (gsOf c ts i) g).1, .int (grp (gsOf c ts i) g).2]) S7
        (i_seqT' (List.length_map (f := gD)) (e_ix (d1 := tkD (c.task (tryAt ts i).2.1)) (e_ix (d1 := .tup (c.tasks.map tkD)) (i := ((tryAt ts i).2.1 : Nat)) (e_ix (d1 := c.d) (by walk_at "ev") e_int rfl)
          (e_ix (d1 := trD (tryAt ts i)) (e_ix (d1 := trsD ts) (i := i) (by walk_at "ev") (e_var rfl (.int _)) (at_mapL hk)) e_int rfl) (at_mapT hc)) e_int rfl))
        (fun g hg => by rw [nth_map (grp_at hg)]; exact g_two)
        (fun g σ' G' H' => (G' sl = none ∧ H' sl = some (.dT kv2)) ∧ (G' fl = none ∧ H' fl = some (.lst ys)) ∧ G' zl = none ∧ (∃ zs, H' zl = some (.lst zs) ∧ RpA K G' zs (((List.range g).map (gSt (gsOf c ts i) (tb i))).map stD)) ∧ ∃ w11 w12 w13, σ' = [some v0, some v1, some v2, some v3, some (.ref sl), some (.ref fl), some (.int i), some (.int (sizeG (gsOf c ts i))), some v8, some (.ref zl), some (.int (pre (gsOf c ts i) g)), w11, w12, w13, w14, w15, w16, w17, w18, w19])
        (fun G8 H8 s8 => ⟨s8.keep gs7 xs7, s8.keep gf7 xf7, (s8.keep gz7 xz7).1, ⟨_, (s8.keep gz7 xz7).2, .nil⟩, _, _, _, rfl⟩) ?_ ?_
      · rintro Gv ev g hg σ' G' H' S' ev' ⟨ks, kf, gz, ⟨zs, xz, rz⟩, w11, w12, w13, rfl⟩ G8 H8 us s8 ru
        obtain ⟨a, b, rfl, ra, rb⟩ := ru.two
        cases ra
        have S8 := S'.trans s8
        have ks8 := s8.keep ks.1 ks.2
        have kf8 := s8.keep kf.1 kf.2
        obtain ⟨gz8, xz8⟩ := s8.keep gz xz
        have e8 : Ex G6 G8 := ev.trans (ev'.trans s8.g)
        have q8 := r8.ex e8
        have hb2 := pre_mono (gs := gsOf c ts i) (a := g + 1) (b := (gsOf c ts i).length) (by omega) (Nat.le_refl _)
        rw [pre_full] at hb2
        have hb3 := pre_succ hg
        refine q_asg (K := K) (d := .lst (((List.range (grp (gsOf c ts i) g).1).map fun j => tb i (pre (gsOf c ts i) g + j)).map obD)) S8.i (EvD.eq (EvF.toD (f_sl (ds := mineD tb i (sizeG (gsOf c ts i))) (e_var rfl q8) (p_some (K := K) (i := (pre (gsOf c ts i) g : Nat)) (e_var rfl (.int _))) (p_some (K := K) (e_addI (i := (pre (gsOf c ts i) g : Nat)) (j := ((grp (gsOf c ts i) g).1 : Nat)) (e_var rfl (.int _)) (e_var rfl (.int _)))))) (congrArg D.lst (mine_cut (by omega)))) fun v13 G9 H9 s9 r13 => ?_
        have S9 := S8.trans s9
        have ks9 := s9.keep ks8.1 ks8.2
        have kf9 := s9.keep kf8.1 kf8.2
        obtain ⟨gz9, xz9⟩ := s9.keep gz8 xz8
        have hzl : zs.length = g := by rw [rz.len, List.length_map, List.length_map, List.length_range]
        refine q_app (K := K) (d := stD (gSt (gsOf c ts i) (tb i) g)) S9.i gz9 xz9 rfl ?_ (by omega) fun v G10 H10 s10 g10 rv => ?_
        · unfold gSt
          generalize ((List.range (grp (gsOf c ts i) g).1).map fun j => tb i (pre (gsOf c ts i) g + j)) = bs at r13
          unfold staOf
          refine e_if (a := decide (some false ∈ bs)) (b_test (EvD.bl (e_in (d1 := .bl false) (d2 := .lst (bs.map obD)) e_bl (by walk_at "ev") rfl rfl (flat_ob bs)) (in_ob (some false) bs))) (fun h => ?_) (fun h => ?_)
          · rw [if_pos (of_decide_eq_true h)]
            exact e_str
          rw [if_neg (of_decide_eq_false h)]
          refine e_if (a := decide (none ∈ bs)) (b_test (EvD.bl (e_in (d1 := .non) (d2 := .lst (bs.map obD)) e_non (by walk_at "ev") rfl rfl (flat_ob bs)) (in_ob none bs))) (fun h => ?_) (fun h => ?_)
          · rw [if_pos (of_decide_eq_true h)]
            exact e_str
          · rw [if_neg (of_decide_eq_false h)]
            exact e_str
        · have ks10 := s10.keep ks9.1 ks9.2
          have kf10 := s10.keep kf9.1 kf9.2
          have S10 := (S9.trans s10).mut (o := .lst (zs ++ [v])) hz0 g10
          refine s_asg (K := K) S10.i (d := .int (pre (gsOf c ts i) (g + 1))) (EvD.int (e_addI (i := (pre (gsOf c ts i) g : Nat)) (j := ((grp (gsOf c ts i) g).1 : Nat)) (e_var rfl (.int _)) (e_var rfl (.int _))) (by omega)) fun v10 G11 H11 s11 r11 => ?_
          cases r11
          obtain ⟨g11, x11⟩ := s11.keep g10 upd_same
          have ks11 := s11.keep ks10.1 ((upd_ne nsz).trans ks10.2)
          have kf11 := s11.keep kf10.1 ((upd_ne nfz).trans kf10.2)
          refine ⟨G11, S10.trans s11, ev'.trans (s8.g.trans (s9.g.trans (s10.g.trans s11.g))), ks11, kf11, g11, ⟨_, x11, ?_⟩, _, _, _, rfl⟩
          rw [List.range_succ, List.map_append, List.map_append]
          exact (rz.ex (s8.g.trans (s9.g.trans (s10.g.trans s11.g)))).snoc (rv.ex s11.g)
      · rintro σ' G' H' S' ev ⟨ks, kf, gz, ⟨zs, xz, rz⟩, w11, w12, w13, rfl⟩
        have S9 := S'.freeze hz0 gz xz
        have e69 : Ex G6 (upd G' zl (.lst zs)) := ev.trans (Ex.new gz)
        have ks9 : upd G' zl (.lst zs) sl = none := by rw [upd_ne nsz]; exact ks.1
        have kf9 : upd G' zl (.lst zs) fl = none := by rw [upd_ne nfz]; exact kf.1
        have rst : Rp K (upd G' zl (.lst zs)) (.ref zl) (.lst ((gSts (gsOf c ts i) (tb i)).map stD)) := .lst upd_same (rz.ex (Ex.new gz))
        have q0 := q0.ex e69
        have q1 := q1.ex e69
        have q8 := r8.ex e69
        generalize upd G' zl (.lst zs) = G9 at S9 e69 ks9 kf9 rst q0 q1 q8
        have xs9 := ks.2
        have xf9 := kf.2
        refine q_asg (K := K) (d := .bl (decide (c.fin ≤ (tryAt ts i).2.2))) S9.i (EvD.bl (e_ge (i := (tryAt ts i).2.2) (j := c.fin) (e_ix (d1 := trD (tryAt ts i)) (e_ix (d1 := trsD ts) (i := i) (e_var rfl q1) (e_var rfl (.int _)) (at_mapL hk)) e_int rfl) (e_ix (d1 := c.d) (e_var rfl q0) e_int rfl)) (dec_iff Int.ofNat_le)) fun v14 G10 H10 s10 r14 => ?_
        cases r14
        have S10 := S9.trans s10
        obtain ⟨ks10, xs10⟩ := s10.keep ks9 xs9
        obtain ⟨kf10, xf10⟩ := s10.keep kf9 xf9
        have q0 := q0.ex s10.g
        have q1 := q1.ex s10.g
        have q8 := q8.ex s10.g
        have rst := rst.ex s10.g
        have hpair : ∀ G2, Ex G10 G2 → ∀ σ : L2.St, σ[1]? = some (some v1) → σ[6]? = some (some (.int i)) → EvD K (tSl (rSlA K) (tOp (rIx K) (tVar 1) (tVar 6)) tNoPart (tPart (tC (.int 2)))) σ G2 (.tup [.int (tryAt ts i).1, .int (tryAt ts i).2.1]) := fun G2 e2 σ h1 h6 =>
          e_pair (e_ix (d1 := trsD ts) (i := i) (e_var h1 (q1.ex e2)) (e_var h6 (.int _)) (at_mapL hk))
        refine q_asgO (K := K) (d := .bl (skipsM c ts tb i)) S10.i ks10 xs10 (EvD.bl (e_or (a := decide (c.fin ≤ (tryAt ts i).2.2)) (e_var rfl (.bl _)) fun _ => e_and (a := decide (c.rule = sFirst)) (e_eq (d1 := .str c.rule) (e_ix (d1 := c.d) (e_var rfl (q0.ex (Ex.new ks10))) e_int rfl) e_str rfl) fun _ =>
          e_or (a := decide (Sta.failed ∈ gSts (gsOf c ts i) (tb i))) (EvD.bl (e_in (d1 := stD .failed) (d2 := .lst ((gSts (gsOf c ts i) (tb i)).map stD)) e_str (e_var rfl (rst.ex (Ex.new ks10))) rfl rfl (flat_st _)) (in_st .failed _)) fun _ =>
          EvD.bl (e_din (kvs := kv2) (ks := [.inl (tryAt ts i).1, .inl (tryAt ts i).2.1]) (hpair _ (Ex.new ks10) _ rfl rfl) (e_var rfl (.tab upd_same)) rfl) (hsol _ _)) rfl) rfl fun v15 G11 H11 s11 ks11 xs11 r15 => ?_
        cases r15
        have S11 := S10.trans s11
        obtain ⟨kf11, xf11⟩ := s11.keep kf10 xf10
        have q0 := q0.ex s11.g
        have q1 := q1.ex s11.g
        have q8 := q8.ex s11.g
        have rst := rst.ex s11.g
        have e411 : Ex G4 G11 := e46.trans (e69.trans (s10.g.trans s11.g))
        show tCut _ _ _ [some v0, some v1, some v2, some v3, some (.ref sl), some (.ref fl), some (.int i), some (.int (sizeG (gsOf c ts i))), some v8, some (.ref zl), some (.int (pre (gsOf c ts i) (gsOf c ts i).length)), w11, w12, w13, some (.bl (decide (c.fin ≤ (tryAt ts i).2.2))), some (.bl (skipsM c ts tb i)), w16, w17, w18, w19] _
        have hkz : kv2.length < 1000000 := by omega
        refine Evl.q_cut (M := fun σ2 H12 => σ2 = [some v0, some v1, some v2, some v3, some (.ref sl), some (.ref fl), some (.int i), some (.int (sizeG (gsOf c ts i))), some v8, some (.ref zl), some (.int (pre (gsOf c ts i) (gsOf c ts i).length)), w11, w12, w13, some (.bl (decide (c.fin ≤ (tryAt ts i).2.2))), some (.bl (skipsM c ts tb i)), w16, w17, w18, w19] ∧
          ∃ G12, Step G H G12 H12 ∧ Ex G11 G12 ∧ (G12 sl = none ∧ ∃ kv2, H12 sl = some (.dT kv2) ∧ SolOk kv2 (solv c ts tb (i + 1)) ∧ kv2.length ≤ i + 1) ∧ G12 fl = none ∧ H12 fl = some (.lst ys)) ?_ ?_
        · refine s_when (b := ((gSts (gsOf c ts i) (tb i)).all fun s => decide (s = .passed)) && !decide (c.fin ≤ (tryAt ts i).2.2)) S11.i (b_and (b_B (K := K) (e_call (a_one (e_var rfl rst)) ⟨gSts (gsOf c ts i) (tb i), rfl, by rw [gSts_len]; omega, rfl⟩)) fun _ => b_not (b_B (K := K) (e_var rfl (.bl _)))) (fun hb G12 H12 s12 => ?_) (fun hb G12 H12 s12 => ?_)
          · obtain ⟨ks12, xs12⟩ := s12.keep ks11 xs11
            obtain ⟨kf12, xf12⟩ := s12.keep kf11 xf11
            refine s_dputT (K := K) (d := .bl true) (ks := [.inl (tryAt ts i).1, .inl (tryAt ts i).2.1]) (S11.trans s12).i ks12 xs12 rfl e_bl rfl (hpair _ (s11.g.trans s12.g) _ rfl rfl) rfl hkz fun G13 H13 s13 ks13 => ?_
            obtain ⟨kf13, xf13⟩ := s13.keep kf12 xf12
            refine ⟨rfl, G13, ((S11.trans s12).trans s13).mut hs0 ks13, s12.g.trans s13.g, ⟨ks13, _, upd_same, fun a b => ?_, Nat.le_trans (length_putK _ _ _) (by omega)⟩, kf13, by rw [upd_ne (Ne.symm nsf)]; exact xf13⟩
            rw [valV_put, solv_succ, ← hsol a b]
            obtain ⟨hb1, hb2⟩ := (Bool.and_eq_true _ _).mp hb
            have hb2 : ¬ c.fin ≤ (tryAt ts i).2.2 := by simpa using hb2
            have hp : decide (tSt c ts tb i = .passed) = true := (try_passed _).trans hb1
            rw [hp, Bool.and_true]
            unfold isOf
            rw [decide_eq_true (show (tryAt ts i).2.2 < c.fin by omega), Bool.and_true]
            by_cases hab : (tryAt ts i).1 = a ∧ (tryAt ts i).2.1 = b
            · rw [if_pos (by rw [hab.1, hab.2]), decide_eq_true hab, Bool.or_true]
              rfl
            · rw [if_neg (fun z => by
                injection z with z1 z2
                injection z2 with z2 _
                injection z1 with z1
                injection z2 with z2
                exact hab ⟨by omega, by omega⟩), decide_eq_false hab, Bool.or_false]
          · obtain ⟨ks12, xs12⟩ := s12.keep ks11 xs11
            obtain ⟨kf12, xf12⟩ := s12.keep kf11 xf11
            refine ⟨rfl, G12, S11.trans s12, s12.g, ⟨ks12, _, xs12, fun a b => ?_, by omega⟩, kf12, xf12⟩
            rw [solv_succ, hsol a b]
            have z : (isOf a b c.fin (tryAt ts i) && decide (tSt c ts tb i = .passed)) = false := by
              have hp : decide (tSt c ts tb i = .passed) = (gSts (gsOf c ts i) (tb i)).all fun s => decide (s = .passed) := try_passed _
              rw [hp]
              unfold isOf
              rcases Bool.and_eq_false_iff.mp hb with h | h
              · rw [h, Bool.and_false]
              · have h : c.fin ≤ (tryAt ts i).2.2 := by simpa using h
                rw [decide_eq_false (show ¬ (tryAt ts i).2.2 < c.fin by omega), Bool.and_false, Bool.false_and]
            rw [z, Bool.or_false]
        · rintro _ H12 ⟨rfl, G12, S12, e12, ⟨ks12, kv3, xs12, hsol3, hkl3⟩, kf12, xf12⟩
          refine q_asgC ?_
          have S12a := S12
          have q0 := q0.ex e12
          have q1 := q1.ex e12
          have q8 := q8.ex e12
          have rst := rst.ex e12
          have ry12 := ry.ex (s4.g.trans (e411.trans e12))
          have hou := openUpTo_len oc ot tb (i := i) (by omega)
          have hyl : ys.length = (openUpTo c ts tb i).length := by rw [ry.len, List.length_map]
          have hsl : ((gSts (gsOf c ts i) (tb i)).map stD).length = (gsOf c ts i).length := by rw [List.length_map, gSts_len]
          generalize hsk : skipsM c ts tb i = sk
          have fin := openTr_fnd (c := c) (ts := ts) (tb := tb) (n := i) (by omega)
          rw [hsk] at fin
          refine s_for (K := K) (n := (gsOf c ts i).length) (js := [17]) (E := fun g => [.int g]) S12 (i_rng1' (e_len (d := .lst ((gSts (gsOf c ts i) (tb i)).map stD)) (e_var rfl rst) (congrArg some hsl)) (by omega)) (fun _ _ => g_name)
            (fun g σ' G' H' => (G' sl = none ∧ H' sl = some (.dT kv3)) ∧ G' fl = none ∧ (∃ ys, H' fl = some (.lst ys) ∧ RpA K G' ys ((openUpTo c ts tb i ++ (fnd sk (gsOf c ts i) (tb i) g 0).map fun t => (i, t)).map prD)) ∧
              ∃ w17 w18, σ' = [some v0, some v1, some v2, some v3, some (.ref sl), some (.ref fl), some (.int i), some (.int (sizeG (gsOf c ts i))), some v8, some (.ref zl), some (.int (pre (gsOf c ts i) (gsOf c ts i).length)), w11, w12, w13, some (.bl (decide (c.fin ≤ (tryAt ts i).2.2))), some (.bl sk), some (.int (pre (gsOf c ts i) g)), w17, w18, w19])
            (fun G13 H13 s13 => ⟨s13.keep ks12 xs12, (s13.keep kf12 xf12).1, ⟨ys, (s13.keep kf12 xf12).2, by
              have z : fnd sk (gsOf c ts i) (tb i) 0 0 = [] := by
                unfold fnd
                rw [openK_zero]
                split <;> rfl
              rw [z, List.map_nil, List.append_nil]
              exact ry12.ex s13.g⟩, _, _, rfl⟩) ?_ ?_
          · rintro Gv ev2 g hg σ' G' H' S' ev' ⟨ks, gf, ⟨ys2, xf, ry2⟩, w17, w18, rfl⟩ G13 H13 us s13 ru
            obtain ⟨a, rfl, ra⟩ := ru.one
            cases ra
            have S13 := S'.trans s13
            have e13 : Ex G12 G13 := ev2.trans (ev'.trans s13.g)
            have q0 := q0.ex e13
            have q1 := q1.ex e13
            have q8 := q8.ex e13
            have rst := rst.ex e13
            obtain ⟨gf13, xf13⟩ := s13.keep gf xf
            have hb2 := pre_mono (gs := gsOf c ts i) (a := g + 1) (b := (gsOf c ts i).length) (by omega) (Nat.le_refl _)
            rw [pre_full] at hb2
            have hb3 := pre_succ hg
            refine s_for (K := K) (n := (grp (gsOf c ts i) g).1) (js := [18]) (E := fun k => [.int k]) S13
              (i_rng1' (e_ix (d1 := gD (grp (gsOf c ts i) g)) (e_ix (d1 := .tup ((gsOf c ts i).map gD)) (i := (g : Nat)) (e_ix (d1 := tkD (c.task (tryAt ts i).2.1)) (e_ix (d1 := .tup (c.tasks.map tkD)) (i := ((tryAt ts i).2.1 : Nat)) (e_ix (d1 := c.d) (e_var rfl q0) e_int rfl)
                (e_ix (d1 := trD (tryAt ts i)) (e_ix (d1 := trsD ts) (i := i) (e_var rfl q1) (e_var rfl (.int _)) (at_mapL hk)) e_int rfl) (at_mapT hc)) e_int rfl) (e_var rfl (.int _)) (at_mapT (grp_at hg))) e_int rfl) (by omega)) (fun _ _ => g_name)
              (fun k σ' G' H' => (G' sl = none ∧ H' sl = some (.dT kv3)) ∧ G' fl = none ∧ (∃ ys, H' fl = some (.lst ys) ∧ RpA K G' ys ((openUpTo c ts tb i ++ (fnd sk (gsOf c ts i) (tb i) g k).map fun t => (i, t)).map prD)) ∧
                ∃ w18, σ' = [some v0, some v1, some v2, some v3, some (.ref sl), some (.ref fl), some (.int i), some (.int (sizeG (gsOf c ts i))), some v8, some (.ref zl), some (.int (pre (gsOf c ts i) (gsOf c ts i).length)), w11, w12, w13, some (.bl (decide (c.fin ≤ (tryAt ts i).2.2))), some (.bl sk), some (.int ((pre (gsOf c ts i) g + k : Nat) : Int)), some (.int g), w18, w19])
              (fun G14 H14 s14 => ⟨(s13.trans s14).keep ks.1 ks.2, (s14.keep gf13 xf13).1, ⟨ys2, (s14.keep gf13 xf13).2, ry2.ex (s13.g.trans s14.g)⟩, _, rfl⟩) ?_ ?_
            · rintro Gu eu k hk2 σ' G' H' S' eu' ⟨ks, gf, ⟨ys3, xf, ry3⟩, w18, rfl⟩ G14 H14 us s14 ru
              obtain ⟨a, rfl, ra⟩ := ru.one
              cases ra
              have S14 := S'.trans s14
              have e14 : Ex G13 G14 := eu.trans (eu'.trans s14.g)
              have q8 := q8.ex e14
              have rst := rst.ex e14
              obtain ⟨gf14, xf14⟩ := s14.keep gf xf
              have ks14 := s14.keep ks.1 ks.2
              have hmine : D.at (.lst (mineD tb i (sizeG (gsOf c ts i)))) ((pre (gsOf c ts i) g + k : Nat) : Int) = some (obD (tb i (pre (gsOf c ts i) g + k))) := at_mapL (List.getElem?_range (by omega))
              have hfl := fnd_len (sk := sk) (gs := gsOf c ts i) (f := tb i) (g := g) (k := k) (by omega)
              have hyl3 : ys3.length = (openUpTo c ts tb i).length + (fnd sk (gsOf c ts i) (tb i) g k).length := by rw [ry3.len, List.length_map, List.length_append, List.length_map]
              refine Evl.q_cut (M := fun σ2 H15 => σ2 = [some v0, some v1, some v2, some v3, some (.ref sl), some (.ref fl), some (.int i), some (.int (sizeG (gsOf c ts i))), some v8, some (.ref zl), some (.int (pre (gsOf c ts i) (gsOf c ts i).length)), w11, w12, w13, some (.bl (decide (c.fin ≤ (tryAt ts i).2.2))), some (.bl sk), some (.int ((pre (gsOf c ts i) g + k : Nat) : Int)), some (.int g), some (.int k), w19] ∧
                ∃ G15 ys, Step G H G15 H15 ∧ Ex Gu G15 ∧ (G15 sl = none ∧ H15 sl = some (.dT kv3)) ∧ G15 fl = none ∧ H15 fl = some (.lst ys) ∧ RpA K G15 ys ((openUpTo c ts tb i ++ (fnd sk (gsOf c ts i) (tb i) g (k + 1)).map fun t => (i, t)).map prD)) ?_ ?_
              · refine s_when (b := !sk && (!decide (gSt (gsOf c ts i) (tb i) g = .failed) && (tb i (pre (gsOf c ts i) g + k)).isNone)) S14.i (b_and (b_not (b_B (K := K) (e_var rfl (.bl _)))) fun _ => b_and (b_test (K := K) (EvD.bl (e_ne (d1 := stD (gSt (gsOf c ts i) (tb i) g)) (d2 := stD .failed) (e_ix (d1 := .lst ((gSts (gsOf c ts i) (tb i)).map stD)) (i := (g : Nat)) (e_var rfl rst) (e_var rfl (.int _)) (at_mapL (gSts_at hg))) e_str rfl) (congrArg not (st_eq _ _)))) fun _ =>
                  b_isN (K := K) (e_ix (i := ((pre (gsOf c ts i) g + k : Nat) : Int)) (e_var rfl q8) (e_var rfl (.int _)) hmine)) (fun hb G15 H15 s15 => ?_) (fun hb G15 H15 s15 => ?_)
                · obtain ⟨gf15, xf15⟩ := s15.keep gf14 xf14
                  have ks15 := s15.keep ks14.1 ks14.2
                  refine s_app (K := K) (d := prD (i, pre (gsOf c ts i) g + k)) (S14.trans s15).i gf15 xf15 rfl (e_tup2 (e_var rfl (.int _)) (e_var rfl (.int _))) (by omega) fun v G16 H16 s16 gf16 rv => ?_
                  have ks16 := s16.keep ks15.1 ks15.2
                  refine ⟨rfl, G16, ys3 ++ [v], ((S14.trans s15).trans s16).mut hf0 gf16, eu'.trans (s14.g.trans (s15.g.trans s16.g)), ⟨ks16.1, by rw [upd_ne nsf]; exact ks16.2⟩, gf16, upd_same, ?_⟩
                  have z : ((openUpTo c ts tb i ++ (fnd sk (gsOf c ts i) (tb i) g (k + 1)).map fun t => (i, t)).map prD) = ((openUpTo c ts tb i ++ (fnd sk (gsOf c ts i) (tb i) g k).map fun t => (i, t)).map prD) ++ [prD (i, pre (gsOf c ts i) g + k)] := by
                    rw [fnd_yes hb]
                    simp only [List.map_append, List.append_assoc]
                    rfl
                  rw [z]
                  exact (ry3.ex (s14.g.trans (s15.g.trans s16.g))).snoc rv
                · refine ⟨rfl, G15, ys3, S14.trans s15, eu'.trans (s14.g.trans s15.g), s15.keep ks14.1 ks14.2, (s15.keep gf14 xf14).1, (s15.keep gf14 xf14).2, ?_⟩
                  rw [fnd_no hb]
                  exact ry3.ex (s14.g.trans s15.g)
              · rintro _ H15 ⟨rfl, G15, ys4, S15, eu15, ks15, gf15, xf15, ry4⟩
                refine s_asg (K := K) S15.i (d := .int ((pre (gsOf c ts i) g + (k + 1) : Nat) : Int)) (EvD.int (e_addI (i := ((pre (gsOf c ts i) g + k : Nat) : Int)) (e_var rfl (.int _)) e_int) (by omega)) fun v16 G16 H16 s16 r16 => ?_
                cases r16
                exact ⟨G16, S15.trans s16, eu15.trans s16.g, s16.keep ks15.1 ks15.2, (s16.keep gf15 xf15).1, ⟨ys4, (s16.keep gf15 xf15).2, ry4.ex s16.g⟩, _, rfl⟩
            · rintro σ' G' H' S' eu' ⟨ks, gf, ⟨ys3, xf, ry3⟩, w18, rfl⟩
              refine ⟨G', S', ev'.trans (s13.g.trans eu'), ks, gf, ⟨ys3, xf, ?_⟩, some (.int g), w18, ?_⟩
              · rw [← fnd_next]
                exact ry3
              · rw [pre_succ hg]
          · rintro σ' G' H' S' ev' ⟨ks, gf, ⟨ys3, xf, ry3⟩, w17, w18, rfl⟩
            refine ⟨G', S', ew'.trans (s4.g.trans (e411.trans (e12.trans ev'))), ⟨ks.1, kv3, ks.2, hsol3, hkl3⟩, gf, ⟨ys3, xf, ?_⟩, _, _, _, _, _, _, _, _, _, _, _, _, _, _, rfl⟩
            rw [openUpTo_succ, fin]
            exact ry3
    · rintro σ' G' H' S' ew ⟨⟨gs, kv2, xs', hsol, hkl⟩, gf, ⟨ys, xf, ry⟩, w6, w7, w8, w9, w10, w11, w12, w13, w14, w15, w16, w17, w18, w19, rfl⟩
      exact ⟨_, rfl, q fl ys G' H' S' hf0 gf xf ry⟩

end

/-! ### drawn verdicts can be -/
theorem Fit.up : ∀ {n : Nat} {d : D}, Fit n d → Fit (n + 1) d
  | _, _, .non => .non
  | _, _, .bl b => .bl b
  | _, _, .int b => .int b
  | _, _, .str b => .str b
  | _, _, .tup hl h => .tup hl fun d hd => (h d hd).up
  | _, _, .lst hl h => .lst hl fun d hd => (h d hd).up
theorem fit_pairs {l : List (Nat × Nat)} (h : l.length ≤ 1000000) : Fit 8 (.lst (l.map prD)) := .lst (by rw [List.length_map]; exact h) fun d hd => by
  obtain ⟨x, _, rfl⟩ := List.mem_map.mp hd
  refine .tup (by show 2 ≤ 1000000; decide) fun d hd => ?_
  cases hd with
  | head => exact .int _
  | tail _ h =>
    cases h with
    | head => exact .int _
    | tail _ h => cases h
theorem rise_trials (c : Con) (ts : List Try) : ∀ i : Nat, Rise (trialsUpTo c ts i)
  | 0 => .nil
  | i + 1 => by
    rw [trialsUpTo_succ]
    refine List.pairwise_append.mpr ⟨rise_trials c ts i, List.pairwise_map.mpr (List.pairwise_lt_range.imp fun {a b} h => .inr ⟨rfl, h⟩), fun a ha b hb => ?_⟩
    obtain ⟨t, _, rfl⟩ := List.mem_map.mp hb
    exact .inl (mem_trialsUpTo.mp ha).1
theorem vers_some {c : Con} {ts : List Try} {vs sub ws : List Ver} (oc : c.Ok) (ot : TriesOk c ts) (hv : vpos vs = allTr c ts) (hs : sub.Sublist vs) (hp : ws.Perm sub) : VersOk c ts ws ∧ ws.length ≤ 4000 := by
  refine ⟨⟨fun v hw => ?_, ?_⟩, ?_⟩
  · have h1 : v ∈ vs := hs.subset (hp.mem_iff.mp hw)
    have h2 : (v.1, v.2.1) ∈ allTr c ts := by rw [← hv]; exact List.mem_map.mpr ⟨v, h1, rfl⟩
    exact mem_trialsUpTo.mp h2
  · have h1 : (sub.map fun v : Ver => (v.1, v.2.1)).Nodup := (hs.map _).nodup (by
      have h2 := (rise_trials c ts ts.length).nodup
      show (vpos vs).Nodup
      rw [hv]
      exact h2)
    exact (hp.map _).nodup_iff.mpr h1
  · have h1 := hp.length_eq
    have h2 := hs.length_le
    have h3 := congrArg List.length hv
    have h4 : (allTr c ts).length ≤ 20 * ts.length := trialsUpTo_len oc ot (Nat.le_refl _)
    have h5 := ot.len
    unfold vpos at h3
    rw [List.length_map] at h3
    omega
theorem vkD_inj {a b : List Ver} (h : vkD a = vkD b) : a = b := by
  refine map_inj' (fun a b h => ?_) h
  injection h with h1 h2
  have h3 := verK_inj h1
  injection h2 with h2
  obtain ⟨a1, a2, a3⟩ := a
  obtain ⟨b1, b2, b3⟩ := b
  injection h3 with h3 h4
  have h3 : a1 = b1 := h3
  have h4 : a2 = b2 := h4
  have h2 : a3 = b3 := h2
  subst h2 h3 h4
  rfl
/-- what _law_some tells of these truths -/
theorem some_of {vs : List Ver} {m : Nat} {es : List D} (h : R_some [.tab (vkD vs), .int m] es) : ∃ sub ws : List Ver, es = ws.map vrD ∧ sub.Sublist vs ∧ ws.Perm sub := by
  obtain ⟨vs', m', sub, ws, e1, e2, e3, e4⟩ := h
  injection e1 with e1 _
  injection e1 with e1
  have e1 := vkD_inj e1
  subst e1
  exact ⟨sub, ws, e2, e3, e4⟩
theorem tries_of {c : Con} {m : Nat} {es : List D} (h : R_tries [c.d, .int m] es) : ∃ ts : List Try, es = ts.map trD ∧ TriesOk c ts ∧ ts.length ≤ m := by
  obtain ⟨c', m', ts, e1, e2, e3, e4⟩ := h
  obtain ⟨rfl, f1⟩ := Con.args_inj e1
  have g1 : m = m' := by injection f1 with f1; exact dint_inj f1
  subst g1
  exact ⟨ts, e2, e3, e4⟩
theorem truth_of {c : Con} {ts : List Try} {d : D} (h : R_truth [c.d, trsD ts] d) : ∃ vs : List Ver, d = .tab (vkD vs) ∧ vpos vs = allTr c ts := by
  obtain ⟨c', ts', vs, e1, e2, e3⟩ := h
  obtain ⟨rfl, f1⟩ := Con.args_inj e1
  have g1 : ts = ts' := by injection f1 with f1; exact trsD_inj f1
  subst g1
  exact ⟨vs, e2, e3⟩
theorem open_len {c : Con} {ts : List Try} (oc : c.Ok) (ot : TriesOk c ts) (tb : Nat → Nat → Option Bool) : (allOpen c ts tb).length ≤ 4000 := by
  have h1 := openUpTo_len oc ot tb (Nat.le_refl _)
  have h2 := ot.len
  unfold allOpen
  omega
def sp_law (K : PySem.W.Frag) : Sp := fun vs H Q _ => ∃ (a : Addr) (ns : List Int), vs = [.ref a] ∧ SqL K H a (ns.map V.int) ∧ ns.length ≤ 63 ∧ ∀ H', Q (.bl true) H'

section
variable {P : Program} {w : World} {K : PySem.W.Frag} {mg : Str → Option Value} {base : Heap}
abbrev s_law : Stmt := top 55
abbrev N_law : List Str := ["_law_script", "_law_d", "_law_turn", "_law_contest_here", "_law_tries_here", "_law_truth_here", "_law_verdicts", "_law_again", "_law_found", "_law_long"]
abbrev P_law : List Str := ["_law_script"]
theorem sc_law : FnScope N_law P_law (defScope s_law) := ⟨rfl, rfl, rfl, by decide +kernel, rfl, by decide +kernel, by decide +kernel⟩

theorem ok_law {f : Addr} {fd : FuncData} (F : Fun K "law" "law" s_law f fd) (T : Tx K mg) (d__law_alike : Dk P w K mg base 8 "_law_alike" P__law_alike (sp__law_alike 8 K)) (d__law_case : Dk P w K mg base 3 "_law_case" P__law_case (sp__law_case K)) (d__law_dice : Dk P w K mg base 1 "_law_dice" P__law_dice (sp__law_dice K)) (d__law_matter : Dk P w K mg base 2 "_law_matter" P__law_matter (sp__law_matter K)) (d__law_off : Dk P w K mg base 1 "_law_off" P__law_off (sp__law_off K)) (d__law_some : Dk P w K mg base 3 "_law_some" P__law_some (sp__law_some K)) (d__law_tries : Dk P w K mg base 2 "_law_tries" P__law_tries (sp__law_tries K)) (d__law_truth : Dk P w K mg base 2 "_law_truth" P__law_truth (sp__law_truth K)) (d_matter : Dk P w K mg base 7 "matter" P_matter (sp_matter K)) : FnOk P w K mg base CX0 9 f fd P_law (sp_law K) := by
  refine F.ok sc_law (fun vs H Q E h => ?_) (fun cdv A outer s H vs Q E hr h => ?_)
  · obtain ⟨a, ns, rfl, _⟩ := h
    rfl
  · obtain ⟨a, ns, rfl, hS, hlen, k⟩ := h
    refine ⟨_, (pss_cons (ps_set (i := 1) sc_law.nd rfl (by first | exact Or.inl rfl | exact Or.inr rfl) (pe_fn d__law_dice (hr.mono (by decide)) (by rfl) (pa_cons (pv 0) (pa_cons pe_int pa_nil))))
    (pss_cons (ps_for PassesOwn.never rfl (pi_range1 (by rfl) T.n_range (pa_cons pe_int pa_nil)) (pg_name (i := 2) sc_law.nd rfl (by first | exact Or.inl rfl | exact Or.inr rfl)) (pss_cons (ps_asg (pe_fn d__law_case (hr.mono (by decide)) (by rfl) (pa_cons (pv 1) (pa_cons (pe_lst (pa_cons pe_str (pa_cons pe_str (pa_cons pe_str pa_nil)))) (pa_cons (pe_ix (ix_seqK K rfl) (pe_lst (pa_cons pe_int (pa_cons pe_int pa_nil))) (pe_fn d__law_off (hr.mono (by decide)) (by rfl) (pa_cons (pv 1) (pa_cons pe_int pa_nil))) (fun _ _ => rfl)) pa_nil)))) (pg_tup rfl (pgs_cons (pg_name (i := 3) sc_law.nd rfl (by first | exact Or.inl rfl | exact Or.inr rfl)) (pgs_cons (pg_name (i := 4) sc_law.nd rfl (by first | exact Or.inl rfl | exact Or.inr rfl)) (pgs_cons (pg_name (i := 5) sc_law.nd rfl (by first | exact Or.inl rfl | exact Or.inr rfl)) pgs_nil)))))
    (pss_cons (ps_set (i := 6) sc_law.nd rfl (by first | exact Or.inl rfl | exact Or.inr rfl) (pe_fn d__law_some (hr.mono (by decide)) (by rfl) (pa_cons (pv 1) (pa_cons (pv 5) (pa_cons (pe_ix (ix_seqK K rfl) (pe_lst (pa_cons pe_int (pa_cons pe_int (pa_cons pe_int (pa_cons (pe_op op_pow pe_int pe_int) pa_nil))))) (pe_fn d__law_off (hr.mono (by decide)) (by rfl) (pa_cons (pv 1) (pa_cons pe_int pa_nil))) (fun _ _ => rfl)) pa_nil)))))
    (pss_one (ps_for PassesOwn.never rfl (pi_range1 (by rfl) T.n_range (pa_cons pe_int pa_nil)) (pg_name (i := 7) sc_law.nd rfl (by first | exact Or.inl rfl | exact Or.inr rfl)) (pss_cons (ps_set (i := 8) sc_law.nd rfl (by first | exact Or.inl rfl | exact Or.inr rfl) (pe_fn d_matter (hr.mono (by decide)) (by rfl) (pa_cons (pv 3) (pa_cons (pv 4) (pa_cons (pv 6) pa_nil)))))
    (pss_cons (ps_if (pt_not (pt_val (pe_fn d__law_alike (hr.mono (by decide)) (by rfl) (pa_cons (pv 8) (pa_cons (pe_fn d__law_matter (hr.mono (by decide)) (by rfl) (pa_cons (pv 3) (pa_cons (pv 4) (pa_cons (pv 6) pa_nil)))) pa_nil))))) (pss_one (ps_ret pe_bl)) pss_nil)
    (pss_one (ps_expr (pe_bm PySem.F.plainAttrs_list PySem.F.slot_list_append PySem.F.type_list_append mt_append (pv 8) (pa_cons (pe_tup pa_nil) pa_nil)))))))))))
    (pss_cons (ps_set (i := 9) sc_law.nd rfl (by first | exact Or.inl rfl | exact Or.inr rfl) (pe_fn d__law_tries (hr.mono (by decide)) (by rfl) (pa_cons (pv 1) (pa_cons (pv 3) (pa_cons pe_int pa_nil)))))
    (pss_cons (ps_set (i := 6) sc_law.nd rfl (by first | exact Or.inl rfl | exact Or.inr rfl) (pe_fn d__law_some (hr.mono (by decide)) (by rfl) (pa_cons (pv 1) (pa_cons (pe_fn d__law_truth (hr.mono (by decide)) (by rfl) (pa_cons (pv 1) (pa_cons (pv 3) (pa_cons (pv 9) pa_nil)))) (pa_cons (pe_ix (ix_seqK K rfl) (pe_lst (pa_cons pe_int (pa_cons pe_int pa_nil))) (pe_fn d__law_off (hr.mono (by decide)) (by rfl) (pa_cons (pv 1) (pa_cons pe_int pa_nil))) (fun _ _ => rfl)) pa_nil)))))
    (pss_one (ps_ret (pe_fn d__law_alike (hr.mono (by decide)) (by rfl) (pa_cons (pe_fn d_matter (hr.mono (by decide)) (by rfl) (pa_cons (pv 3) (pa_cons (pv 9) (pa_cons (pv 6) pa_nil)))) (pa_cons (pe_fn d__law_matter (hr.mono (by decide)) (by rfl) (pa_cons (pv 3) (pa_cons (pv 9) (pa_cons (pv 6) pa_nil)))) pa_nil))))))))), ?_⟩
    try dsimp only [cxOf, Cx.nox, Cx.wish]
    refine ⟨_, rfl, a, ns, rfl, hS, hlen, fun p ms H1 hp0 hex hpx dok => ?_⟩
    have S1 : Sd p H H1 H H1 := Sd.refl hex hp0 ⟨ms, hpx, dok⟩
    refine q_for (K := K) (n := 3) (js := [2]) (E := fun i => [.int i]) S1.s (i_rng1' (n := 3) e_int (by decide)) (fun i hi => g_name)
      (fun i σ' G' H' => G' p = none ∧ Dice p H' ∧ ∃ w2 w3 w4 w5 w6 w7 w8, (i = 0 ∨ ∃ (v3 : V) (c : Con), w3 = some v3 ∧ Rp K G' v3 c.d ∧ c.Ok) ∧ σ' = [some (.ref a), some (.ref p), w2, w3, w4, w5, w6, w7, w8, none])
      (fun G2 H2 s2 => ⟨(S1.then s2).g, (S1.then s2).d, _, _, _, _, _, _, _, .inl rfl, rfl⟩) ?_ ?_
    · rintro Gw ew i hi σ' G' H' S' ew' ⟨gp', dc', w2, w3, w4, w5, w6, w7, w8, _, rfl⟩ G2 H2 us s2 ru
      obtain ⟨y, rfl, ry⟩ := ru.one
      have S2 := (Sd.mk S' gp' dc').then s2
      refine qr_asgT (K := K) (R := fun d => ∃ (c : Con) (ts : List Try) (vs : List Ver), d = .tup [c.d, trsD ts, .tab (vkD vs)] ∧ c.Ok ∧ TriesOk c ts ∧ vpos vs = allTr c ts) S2
        (r_call rfl (rs_cons (RA := fun d => d = .lst ([sFirst, sBest, sGroups].map D.str)) (r_of (EvF.toD (f_lst (a_cons e_str (a_cons e_str (a_one e_str))) (by show 3 ≤ 100000; decide))) rfl)
          (rs_one (RA := Btw 12 40) (by walk_at "drw") (Rs := fun ds => ∃ m : Nat, ds = [.int m] ∧ m ≤ 200) fun d ⟨m, e1, e2, e3⟩ => ⟨m, by rw [e1], by omega⟩) fun d ds e1 ⟨m, e2, e3⟩ => ?_)) fun v d G3 H3 s3 S3 ⟨c, ts, vs, e1, oc, ot, hv⟩ rv => ?_
      · subst e1 e2
        refine ⟨⟨_, m, rfl, ⟨by decide, by decide, fun r hr => ?_⟩, e3⟩, fun d ⟨rs', m', c, ts, vs, e1, e2, oc, _, ot, _, hv⟩ => ⟨c, ts, vs, e2, oc, ot, hv⟩⟩
        simp only [List.mem_cons, List.not_mem_nil, or_false] at hr
        exact hr
      subst e1
      refine g_three G3 H3 v _ _ S3.ii rv fun us ru => ?_
      obtain ⟨v3, v4, v5, rfl, r3, r4, r5⟩ := ru.three
      refine qrf_asg (K := K) (Rs := fun es => ∃ sub ws : List Ver, es = ws.map vrD ∧ sub.Sublist vs ∧ ws.Perm sub) S3 (rf_call rfl (rs_cons (RA := fun d => d = .tab (vkD vs)) (r_of (e_var rfl r5) rfl) (rs_one (RA := Btw 2 1000000) (by walk_at "drw") (Rs := fun ds => ∃ m : Nat, ds = [.int m] ∧ 0 < m ∧ m ≤ 1000000) fun d ⟨m, e1, e2, e3⟩ => ⟨m, by rw [e1], by omega, e3⟩) fun d ds e1 ⟨m, e2, e3, e4⟩ => ?_)) fun vl xs ds G4 H4 s4 vl1 vl2 vl3 ⟨sub, ws, e1, e2, e3⟩ rx => ?_
      · subst e1 e2
        have h1 : (vpos vs).length = vs.length := List.length_map _
        have h2 : (vpos vs).length ≤ 20 * ts.length := by rw [hv]; exact trialsUpTo_len oc ot (Nat.le_refl _)
        have h3 := ot.len
        exact ⟨⟨vs, m, rfl, by rw [hv]; exact rise_trials _ _ _, by omega, e3, e4⟩, fun es h => some_of h⟩
      subst e1
      obtain ⟨ov, hwl⟩ := vers_some oc ot hv e2 e3
      have n4 := S3.d.ne vl1
      have vl0 := S3.pre vl1 n4
      have S4 := (S3.trans s4).freeze n4 vl0 vl2 vl3
      have r6 : Rp K (upd G4 vl (.lst xs)) (.ref vl) (vrsD ws) := .lst upd_same (rx.ex (Ex.new vl2))
      have r3 := (r3.ex s4.gg).ex (Ex.new (o := .lst xs) vl2)
      have r4 := (r4.ex s4.gg).ex (Ex.new (o := .lst xs) vl2)
      have e34 : Ex G3 (upd G4 vl (.lst xs)) := s4.gg.trans (Ex.new vl2)
      generalize upd G4 vl (.lst xs) = G5 at S4 r6 r3 r4 e34
      have hol := open_len oc ot (tbOf ws)
      refine s_for (K := K) (n := 2) (js := [7]) (E := fun i => [.int i]) S4.s (i_rng1' (n := 2) e_int (by decide)) (fun i hi => g_name)
        (fun i σ' G' H' => G' p = none ∧ Dice p H' ∧ ∃ w7 w8, σ' = [some (.ref a), some (.ref p), some y, some v3, some v4, some v5, some (.ref vl), w7, w8, none])
        (fun G6 H6 s6 => ⟨(S4.then s6).g, (S4.then s6).d, _, _, rfl⟩) ?_ ?_
      · rintro Gv ev j hj σ' G' H' S' ev' ⟨gp', dc', w7, w8, rfl⟩ G6 H6 us s6 ru
        obtain ⟨z, rfl, rz⟩ := ru.one
        have S6 := (Sd.mk S' gp' dc').then s6
        have e56 : Ex G5 G6 := ev.trans (ev'.trans s6.g)
        have r3 := r3.ex e56
        have r4 := r4.ex e56
        have r6 := r6.ex e56
        refine q_asgF (K := K) S6.ii (f_call (K := K) (a_cons (e_var rfl r3) (a_cons (e_var rfl r4) (a_one (e_var rfl r6)))) ⟨c, ts, ws, rfl, oc, ot, ov, by omega, rfl⟩) fun fl ys G7 H7 s7 fl1 fl2 fl3 ry => ?_
        have S7 := S6.then s7
        have fl0 := S6.pre fl1 (S6.d.ne fl1)
        have nf := S6.d.ne fl1
        have r3 := r3.ex s7.g
        have r4 := r4.ex s7.g
        have r6 := r6.ex s7.g
        refine q_whenO (b := false) S7.ii fl2 fl3 (b_notT (b_B (K := K) (e_call (a_cons (e_var rfl (.lst upd_same (ry.ex (Ex.new fl2)))) (a_one (EvF.toD (f_call (K := K) (a_cons (e_var rfl (r3.ex (Ex.new fl2))) (a_cons (e_var rfl (r4.ex (Ex.new fl2))) (a_one (e_var rfl (r6.ex (Ex.new fl2)))))) ⟨c, ts, ws, rfl, oc, ot, ov, by omega, rfl⟩)))) ⟨_, rfl, fit_pairs (by omega), rfl⟩))) (fun z => nomatch z) fun _ G8 H8 s8 fl4 fl5 => ?_
        have S8 := S7.then s8
        have hyl : ys.length = (allOpen c ts (tbOf ws)).length := by rw [ry.len, List.length_map]
        refine s_app (K := K) (d := .tup []) S8.ii fl4 fl5 rfl (e_tup a_nil (by decide)) (by omega) fun v G9 H9 s9 fl6 rv => ?_
        have S9 := (S8.then s9).mut (o := .lst (ys ++ [v])) nf fl0 fl6
        exact ⟨G9, S9.s, ev'.trans (s6.g.trans (s7.g.trans (s8.g.trans s9.g))), S9.g, S9.d, _, _, rfl⟩
      · rintro σ' G' H' S' ev' ⟨gp', dc', w7, w8, rfl⟩
        exact ⟨G', S', ew'.trans (s2.g.trans (s3.gg.trans (e34.trans ev'))), gp', dc', _, _, _, _, _, _, _, .inr ⟨v3, c, rfl, r3.ex ev', oc⟩, rfl⟩
    · rintro σ' G' H' S' ew' ⟨gp', dc', w2, w3, w4, w5, w6, w7, w8, h0, rfl⟩
      obtain ⟨v3, c, rfl, r3, oc⟩ : ∃ (v3 : V) (c : Con), w3 = some v3 ∧ Rp K G' v3 c.d ∧ c.Ok := by
        rcases h0 with h | h
        · cases h
        · exact h
      have S2 := Sd.mk S' gp' dc'
      refine qrf_asg (K := K) (Rs := fun es => ∃ ts : List Try, es = ts.map trD ∧ TriesOk c ts) S2 ((rf_call1 rfl (a_cons (e_var rfl r3) (a_one e_int)) ⟨c, 200, rfl, oc, by decide⟩).imp fun es h => ?_) fun tl xs ds G3 H3 s3 tl1 tl2 tl3 ⟨ts, e1, ot⟩ rx => ?_
      · obtain ⟨ts, e1, e2, _⟩ := tries_of (m := 200) h
        exact ⟨ts, e1, e2⟩
      subst e1
      have n3 := S2.d.ne tl1
      have S3 := (S2.trans s3).freeze n3 (S2.pre tl1 n3) tl2 tl3
      have r9 : Rp K (upd G3 tl (.lst xs)) (.ref tl) (trsD ts) := .lst upd_same (rx.ex (Ex.new tl2))
      have r3 := (r3.ex s3.gg).ex (Ex.new (o := .lst xs) tl2)
      generalize upd G3 tl (.lst xs) = G4 at S3 r9 r3
      refine qrf_asg (K := K) (Rs := fun es => ∃ ws : List Ver, es = ws.map vrD ∧ VersOk c ts ws ∧ ws.length ≤ 4000) S3 (rf_call rfl (rs_cons (RA := fun d => ∃ vs : List Ver, d = .tab (vkD vs) ∧ vpos vs = allTr c ts) ((r_call1 rfl (a_cons (e_var rfl r3) (a_one (e_var rfl r9))) ⟨c, ts, rfl, oc, ot⟩).imp fun d h => truth_of h) (rs_one (RA := Btw 2 9) (by walk_at "drw") (Rs := fun ds => ∃ m : Nat, ds = [.int m] ∧ 0 < m ∧ m ≤ 1000000) fun d ⟨m, e1, e2, e3⟩ => ⟨m, by rw [e1], by omega, by omega⟩) fun d ds ⟨vs, e1, hv⟩ ⟨m, e2, e3, e4⟩ => ?_)) fun vl ys ds G5 H5 s5 vl1 vl2 vl3 ⟨ws, e1, ov, hwl⟩ ry => ?_
      · subst e1 e2
        have h1 : (vpos vs).length = vs.length := List.length_map _
        have h2 : (vpos vs).length ≤ 20 * ts.length := by rw [hv]; exact trialsUpTo_len oc ot (Nat.le_refl _)
        have h3 := ot.len
        refine ⟨⟨vs, m, rfl, by rw [hv]; exact rise_trials _ _ _, by omega, e3, e4⟩, fun es h => ?_⟩
        obtain ⟨sub, ws, e5, e6, e7⟩ := some_of h
        exact ⟨ws, e5, vers_some oc ot hv e6 e7⟩
      subst e1
      have n5 := S3.d.ne vl1
      have S5 := (S3.trans s5).freeze n5 (S3.pre vl1 n5) vl2 vl3
      have r6 : Rp K (upd G5 vl (.lst ys)) (.ref vl) (vrsD ws) := .lst upd_same (ry.ex (Ex.new vl2))
      have r3 := (r3.ex s5.gg).ex (Ex.new (o := .lst ys) vl2)
      have r9 := (r9.ex s5.gg).ex (Ex.new (o := .lst ys) vl2)
      have hol := open_len oc ot (tbOf ws)
      refine s_ret (K := K) (d := .bl true) S5.ii (e_call (a_cons (EvF.toD (f_call (K := K) (a_cons (e_var rfl r3) (a_cons (e_var rfl r9) (a_one (e_var rfl r6)))) ⟨c, ts, ws, rfl, oc, ot, ov, by omega, rfl⟩)) (a_one (EvF.toD (f_call (K := K) (a_cons (e_var rfl r3) (a_cons (e_var rfl r9) (a_one (e_var rfl r6)))) ⟨c, ts, ws, rfl, oc, ot, ov, by omega, rfl⟩)))) ⟨_, rfl, fit_pairs (by omega), rfl⟩) fun v G6 H6 s6 rv => ?_
      cases rv
      exact k _

end

end J
namespace J
open PySem PySem.Spec PyProof.Rows L2
def dn__law_alike : He.DefD := ⟨("_law_alike", none), "_law_alike", "_law_alike", defArgs s__law_alike, defBody s__law_alike, defScope s__law_alike, [], []⟩
def dn__law_off : He.DefD := ⟨("_law_off", none), "_law_off", "_law_off", defArgs s__law_off, defBody s__law_off, defScope s__law_off, [], []⟩
def dn__law_contest : He.DefD := ⟨("_law_contest", none), "_law_contest", "_law_contest", defArgs s__law_contest, defBody s__law_contest, defScope s__law_contest, [], []⟩
def dn__law_tries : He.DefD := ⟨("_law_tries", none), "_law_tries", "_law_tries", defArgs s__law_tries, defBody s__law_tries, defScope s__law_tries, [], []⟩
def dn__law_size : He.DefD := ⟨("_law_size", none), "_law_size", "_law_size", defArgs s__law_size, defBody s__law_size, defScope s__law_size, [], []⟩
def dn__law_truth : He.DefD := ⟨("_law_truth", none), "_law_truth", "_law_truth", defArgs s__law_truth, defBody s__law_truth, defScope s__law_truth, [], []⟩
def dn__law_case : He.DefD := ⟨("_law_case", none), "_law_case", "_law_case", defArgs s__law_case, defBody s__law_case, defScope s__law_case, [], []⟩
def dn__law_dice : He.DefD := ⟨("_law_dice", none), "_law_dice", "_law_dice", defArgs s__law_dice, defBody s__law_dice, defScope s__law_dice, [], []⟩
def dn__law_is_whole : He.DefD := ⟨("_law_is_whole", none), "_law_is_whole", "_law_is_whole", defArgs s__law_is_whole, defBody s__law_is_whole, defScope s__law_is_whole, [], []⟩
def dn__law_matter : He.DefD := ⟨("_law_matter", none), "_law_matter", "_law_matter", defArgs s__law_matter, defBody s__law_matter, defScope s__law_matter, [], []⟩
def dn__law_mixed : He.DefD := ⟨("_law_mixed", none), "_law_mixed", "_law_mixed", defArgs s__law_mixed, defBody s__law_mixed, defScope s__law_mixed, [], []⟩
def dn__law_some : He.DefD := ⟨("_law_some", none), "_law_some", "_law_some", defArgs s__law_some, defBody s__law_some, defScope s__law_some, [], []⟩
def dn_state_of : He.DefD := ⟨("state_of", none), "state_of", "state_of", defArgs s_state_of, defBody s_state_of, defScope s_state_of, [], []⟩
def dn_group_states : He.DefD := ⟨("group_states", none), "group_states", "group_states", defArgs s_group_states, defBody s_group_states, defScope s_group_states, [], []⟩
def dn_numbers_of : He.DefD := ⟨("numbers_of", none), "numbers_of", "numbers_of", defArgs s_numbers_of, defBody s_numbers_of, defScope s_numbers_of, [], []⟩
def dn_try_state : He.DefD := ⟨("try_state", none), "try_state", "try_state", defArgs s_try_state, defBody s_try_state, defScope s_try_state, [], []⟩
def dn_is_over : He.DefD := ⟨("is_over", none), "is_over", "is_over", defArgs s_is_over, defBody s_is_over, defScope s_is_over, [], []⟩
def dn_open_trials : He.DefD := ⟨("open_trials", none), "open_trials", "open_trials", defArgs s_open_trials, defBody s_open_trials, defScope s_open_trials, [], []⟩
def dn_all_open : He.DefD := ⟨("all_open", none), "all_open", "all_open", defArgs s_all_open, defBody s_all_open, defScope s_all_open, [], []⟩
def dn_is_between : He.DefD := ⟨("is_between", none), "is_between", "is_between", defArgs s_is_between, defBody s_is_between, defScope s_is_between, [], []⟩
def dn_is_group : He.DefD := ⟨("is_group", none), "is_group", "is_group", defArgs s_is_group, defBody s_is_group, defScope s_is_group, [], []⟩
def dn_need_tasks : He.DefD := ⟨("need_tasks", none), "need_tasks", "need_tasks", defArgs s_need_tasks, defBody s_need_tasks, defScope s_need_tasks, [], []⟩
def dn_need_contest : He.DefD := ⟨("need_contest", none), "need_contest", "need_contest", defArgs s_need_contest, defBody s_need_contest, defScope s_need_contest, [], []⟩
def dn_is_try : He.DefD := ⟨("is_try", none), "is_try", "is_try", defArgs s_is_try, defBody s_is_try, defScope s_is_try, [], []⟩
def dn_need_tries : He.DefD := ⟨("need_tries", none), "need_tries", "need_tries", defArgs s_need_tries, defBody s_need_tries, defScope s_need_tries, [], []⟩
def dn_trials_of : He.DefD := ⟨("trials_of", none), "trials_of", "trials_of", defArgs s_trials_of, defBody s_trials_of, defScope s_trials_of, [], []⟩
def dn_is_verdict : He.DefD := ⟨("is_verdict", none), "is_verdict", "is_verdict", defArgs s_is_verdict, defBody s_is_verdict, defScope s_is_verdict, [], []⟩
def dn_need_verdicts : He.DefD := ⟨("need_verdicts", none), "need_verdicts", "need_verdicts", defArgs s_need_verdicts, defBody s_need_verdicts, defScope s_need_verdicts, [], []⟩
def dn_need_all : He.DefD := ⟨("need_all", none), "need_all", "need_all", defArgs s_need_all, defBody s_need_all, defScope s_need_all, [], []⟩
def dn_table_of : He.DefD := ⟨("table_of", none), "table_of", "table_of", defArgs s_table_of, defBody s_table_of, defScope s_table_of, [], []⟩
def dn_matter : He.DefD := ⟨("matter", none), "matter", "matter", defArgs s_matter, defBody s_matter, defScope s_matter, [], []⟩
def dn_law : He.DefD := ⟨("law", none), "law", "law", defArgs s_law, defBody s_law, defScope s_law, [], []⟩
def fn : List He.DefD := [dn__law_alike, dn__law_off, dn__law_contest, dn__law_tries, dn__law_size, dn__law_truth, dn__law_case, dn__law_dice, dn__law_is_whole, dn__law_matter, dn__law_mixed, dn__law_some, dn_state_of, dn_group_states, dn_numbers_of, dn_try_state, dn_is_over, dn_open_trials, dn_all_open, dn_is_between, dn_is_group, dn_need_tasks, dn_need_contest, dn_is_try, dn_need_tries, dn_trials_of, dn_is_verdict, dn_need_verdicts, dn_need_all, dn_table_of, dn_matter, dn_law]
def fa : List He.Fa := [.glo "_law_alike", .glo "_law_off", .glo "_law_contest", .glo "_law_tries", .glo "_law_size", .glo "_law_truth", .glo "_law_case", .glo "_law_dice", .glo "_law_is_whole", .glo "_law_matter", .glo "_law_mixed", .glo "_law_some", .glo "state_of", .glo "group_states", .glo "numbers_of", .glo "try_state", .glo "is_over", .glo "open_trials", .glo "all_open", .glo "is_between", .glo "is_group", .glo "need_tasks", .glo "need_contest", .glo "is_try", .glo "need_tries", .glo "trials_of", .glo "is_verdict", .glo "need_verdicts", .glo "need_all", .glo "table_of", .glo "matter", .glo "law", .str "FAILED" "failed", .str "FIRST" "first", .int "MOST_END" 300, .int "MOST_GROUPS" 4, .int "MOST_POINTS" 100, .int "MOST_TASKS" 6, .int "MOST_TEAMS" 12, .int "MOST_TIME" 999, .int "MOST_TRIALS" 5, .int "MOST_TRIES" 200, .str "OPEN" "open", .str "PASSED" "passed", .glo "RULES", .free "abs", .free "all", .free "bool", .free "dict", .free "enumerate", .free "int", .free "isinstance", .free "len", .free "list", .free "min", .free "range", .free "sorted", .free "str", .free "sum", .free "tuple"]
def ex (K : PySem.W.Frag) : Bool := (He.tupB K "RULES" [.str (PySem.Str.ofString "first"), .str (PySem.Str.ofString "best"), .str (PySem.Str.ofString "groups")])
theorem ex0 {K : PySem.W.Frag} (h : ex K = true) : (He.tupB K "RULES" [.str (PySem.Str.ofString "first"), .str (PySem.Str.ofString "best"), .str (PySem.Str.ofString "groups")]) = true := h
def loose0 : List PySem.Str := ["__name__", "HallError", "ValueError", "BadContest", "BadTries", "BadVerdicts", "FIRST", "BEST", "GROUPS", "RULES", "MOST_TEAMS", "MOST_TASKS", "MOST_GROUPS", "MOST_TRIALS", "MOST_POINTS", "MOST_END", "MOST_TRIES", "MOST_TIME", "is_between", "is_group", "need_tasks", "need_contest", "trials_of", "is_try", "need_tries", "is_verdict", "need_verdicts", "need_all", "table_of", "PASSED"]
def loose1 : List PySem.Str := ["FAILED", "OPEN", "state_of", "group_states", "try_state", "numbers_of", "is_over", "open_trials", "all_open", "matter", "_law_dice", "_law_off", "_law_alike", "_law_mixed", "_law_contest", "_law_tries", "_law_size", "_law_truth", "_law_some", "_law_matter", "_law_case", "_law_is_whole"]
def loose : List PySem.Str := loose0 ++ loose1
abbrev R : PySem.W.OpenRow := PySem.W.OpenLaw.row PySem.Challenge.rw_judgehall_k05_what_matters
abbrev hk : PySem.W.Hook := hookE 4 fa fn ex
def ob (s : PySem.W.SharedT) : He.AlD × Bool := obsE 4 fa fn ex (HandSHeadRun.getT s)
theorem ob_eq (s : PySem.W.SharedT) : ob s = hk.obs s.abs := obsE_eq (HandSHeadRun.getT_eq s)
set_option maxHeartbeats 0 in
theorem run (w : World) : HandSHeadRun.RunEq R (PySem.W.view R.prog [55]) hk ob 60000 loose w := by
  intro os
  kernel_rfl
theorem facts {P : Program} {w : World} {K : PySem.W.Frag} {h : Heap} {mg : Str → Option Value} {f : Addr} (X : K.In h) (G : h.Ns mainGlobals mg) (hfa : mg ("law" : Str) = some (.ref f)) (c : SaysE fa fn ex K) :
    ∃ fd : FuncData, (∀ (s : Shared) (v : Value), BindsTo s fd ⟨[v], []⟩ [("_law_script", v)]) ∧ ∀ base : Heap, K.In base → base.Ns mainGlobals mg → FnOk P w K mg base CX0 9 f fd P_law (sp_law K) := by
  obtain ⟨fd__law_alike, F__law_alike⟩ := c.1.def_ 0 (d := dn__law_alike) rfl
  obtain ⟨fd__law_off, F__law_off⟩ := c.1.def_ 1 (d := dn__law_off) rfl
  obtain ⟨fd__law_contest, F__law_contest⟩ := c.1.def_ 2 (d := dn__law_contest) rfl
  obtain ⟨fd__law_tries, F__law_tries⟩ := c.1.def_ 3 (d := dn__law_tries) rfl
  obtain ⟨fd__law_size, F__law_size⟩ := c.1.def_ 4 (d := dn__law_size) rfl
  obtain ⟨fd__law_truth, F__law_truth⟩ := c.1.def_ 5 (d := dn__law_truth) rfl
  obtain ⟨fd__law_case, F__law_case⟩ := c.1.def_ 6 (d := dn__law_case) rfl
  obtain ⟨fd__law_dice, F__law_dice⟩ := c.1.def_ 7 (d := dn__law_dice) rfl
  obtain ⟨fd__law_is_whole, F__law_is_whole⟩ := c.1.def_ 8 (d := dn__law_is_whole) rfl
  obtain ⟨fd__law_matter, F__law_matter⟩ := c.1.def_ 9 (d := dn__law_matter) rfl
  obtain ⟨fd__law_mixed, F__law_mixed⟩ := c.1.def_ 10 (d := dn__law_mixed) rfl
  obtain ⟨fd__law_some, F__law_some⟩ := c.1.def_ 11 (d := dn__law_some) rfl
  obtain ⟨fd_state_of, F_state_of⟩ := c.1.def_ 12 (d := dn_state_of) rfl
  obtain ⟨fd_group_states, F_group_states⟩ := c.1.def_ 13 (d := dn_group_states) rfl
  obtain ⟨fd_numbers_of, F_numbers_of⟩ := c.1.def_ 14 (d := dn_numbers_of) rfl
  obtain ⟨fd_try_state, F_try_state⟩ := c.1.def_ 15 (d := dn_try_state) rfl
  obtain ⟨fd_is_over, F_is_over⟩ := c.1.def_ 16 (d := dn_is_over) rfl
  obtain ⟨fd_open_trials, F_open_trials⟩ := c.1.def_ 17 (d := dn_open_trials) rfl
  obtain ⟨fd_all_open, F_all_open⟩ := c.1.def_ 18 (d := dn_all_open) rfl
  obtain ⟨fd_is_between, F_is_between⟩ := c.1.def_ 19 (d := dn_is_between) rfl
  obtain ⟨fd_is_group, F_is_group⟩ := c.1.def_ 20 (d := dn_is_group) rfl
  obtain ⟨fd_need_tasks, F_need_tasks⟩ := c.1.def_ 21 (d := dn_need_tasks) rfl
  obtain ⟨fd_need_contest, F_need_contest⟩ := c.1.def_ 22 (d := dn_need_contest) rfl
  obtain ⟨fd_is_try, F_is_try⟩ := c.1.def_ 23 (d := dn_is_try) rfl
  obtain ⟨fd_need_tries, F_need_tries⟩ := c.1.def_ 24 (d := dn_need_tries) rfl
  obtain ⟨fd_trials_of, F_trials_of⟩ := c.1.def_ 25 (d := dn_trials_of) rfl
  obtain ⟨fd_is_verdict, F_is_verdict⟩ := c.1.def_ 26 (d := dn_is_verdict) rfl
  obtain ⟨fd_need_verdicts, F_need_verdicts⟩ := c.1.def_ 27 (d := dn_need_verdicts) rfl
  obtain ⟨fd_need_all, F_need_all⟩ := c.1.def_ 28 (d := dn_need_all) rfl
  obtain ⟨fd_table_of, F_table_of⟩ := c.1.def_ 29 (d := dn_table_of) rfl
  obtain ⟨fd_matter, F_matter⟩ := c.1.def_ 30 (d := dn_matter) rfl
  obtain ⟨fd_law, F_law⟩ := c.1.def_ 31 (d := dn_law) rfl
  have T : Tx K mg := ⟨He.free_ok X G (c.1.fact 45 (f := .free "abs") rfl), He.free_ok X G (c.1.fact 46 (f := .free "all") rfl), He.free_ok X G (c.1.fact 47 (f := .free "bool") rfl), He.free_ok X G (c.1.fact 48 (f := .free "dict") rfl), He.free_ok X G (c.1.fact 49 (f := .free "enumerate") rfl), He.free_ok X G (c.1.fact 50 (f := .free "int") rfl), He.free_ok X G (c.1.fact 51 (f := .free "isinstance") rfl), He.free_ok X G (c.1.fact 52 (f := .free "len") rfl), He.free_ok X G (c.1.fact 53 (f := .free "list") rfl), He.free_ok X G (c.1.fact 54 (f := .free "min") rfl), He.free_ok X G (c.1.fact 55 (f := .free "range") rfl), He.free_ok X G (c.1.fact 56 (f := .free "sorted") rfl), He.free_ok X G (c.1.fact 57 (f := .free "str") rfl), He.free_ok X G (c.1.fact 58 (f := .free "sum") rfl), He.free_ok X G (c.1.fact 59 (f := .free "tuple") rfl), He.str_ok X G (c.1.fact 33 (f := .str "FIRST" "first") rfl), ⟨He.ga K "RULES", He.glo_ok X G (c.1.fact 44 (f := .glo "RULES") rfl), fun H => He.tupB_ok (ex0 c.2) H⟩, He.int_ok X G (c.1.fact 38 (f := .int "MOST_TEAMS" 12) rfl), He.int_ok X G (c.1.fact 37 (f := .int "MOST_TASKS" 6) rfl), He.int_ok X G (c.1.fact 35 (f := .int "MOST_GROUPS" 4) rfl), He.int_ok X G (c.1.fact 40 (f := .int "MOST_TRIALS" 5) rfl), He.int_ok X G (c.1.fact 36 (f := .int "MOST_POINTS" 100) rfl), He.int_ok X G (c.1.fact 34 (f := .int "MOST_END" 300) rfl), He.int_ok X G (c.1.fact 41 (f := .int "MOST_TRIES" 200) rfl), He.int_ok X G (c.1.fact 39 (f := .int "MOST_TIME" 999) rfl), He.str_ok X G (c.1.fact 43 (f := .str "PASSED" "passed") rfl), He.str_ok X G (c.1.fact 32 (f := .str "FAILED" "failed") rfl), He.str_ok X G (c.1.fact 42 (f := .str "OPEN" "open") rfl)⟩
  have e := hfa.symm.trans (He.glo_ok X G (c.1.fact 31 (f := .glo "law") rfl))
  cases e
  have b := FunD.bindsA (ps := P_law) F_law fun _ _ _ _ _ _ us hl => match us, hl with | [_], _ => rfl
  refine ⟨fd_law, fun s v => b s [v] rfl, fun base _ _ => ?_⟩
  have Q__law_alike : Fun K "_law_alike" "_law_alike" s__law_alike _ fd__law_alike := fun_of F__law_alike
  have b__law_alike : Binds K fd__law_alike P__law_alike [] := Q__law_alike.binds fun _ _ _ _ _ _ us hl => match us, hl with | [_, _], _ => rfl
  have g__law_alike := He.glo_ok X G (c.1.fact 0 (f := .glo "_law_alike") rfl)
  have d__law_alike : Dk P w K mg base 8 "_law_alike" P__law_alike (sp__law_alike 8 K) := ⟨_, fd__law_alike, ok__law_alike Q__law_alike T b__law_alike g__law_alike 8, b__law_alike, g__law_alike, F__law_alike.kp⟩
  have Q__law_off : Fun K "_law_off" "_law_off" s__law_off _ fd__law_off := fun_of F__law_off
  have b__law_off : Binds K fd__law_off P__law_off [] := Q__law_off.binds fun _ _ _ _ _ _ us hl => match us, hl with | [_, _], _ => rfl
  have g__law_off := He.glo_ok X G (c.1.fact 1 (f := .glo "_law_off") rfl)
  have d__law_off : Dk P w K mg base 1 "_law_off" P__law_off (sp__law_off K) := ⟨_, fd__law_off, ok__law_off Q__law_off T, b__law_off, g__law_off, F__law_off.kp⟩
  have Q__law_contest : Fun K "_law_contest" "_law_contest" s__law_contest _ fd__law_contest := fun_of F__law_contest
  have b__law_contest : Binds K fd__law_contest P__law_contest [] := Q__law_contest.binds fun _ _ _ _ _ _ us hl => match us, hl with | [_, _], _ => rfl
  have g__law_contest := He.glo_ok X G (c.1.fact 2 (f := .glo "_law_contest") rfl)
  have d__law_contest : Dk P w K mg base 2 "_law_contest" P__law_contest (sp__law_contest K) := ⟨_, fd__law_contest, ok__law_contest Q__law_contest T d__law_off, b__law_contest, g__law_contest, F__law_contest.kp⟩
  have Q__law_tries : Fun K "_law_tries" "_law_tries" s__law_tries _ fd__law_tries := fun_of F__law_tries
  have b__law_tries : Binds K fd__law_tries P__law_tries [] := Q__law_tries.binds fun _ _ _ _ _ _ us hl => match us, hl with | [_, _, _], _ => rfl
  have g__law_tries := He.glo_ok X G (c.1.fact 3 (f := .glo "_law_tries") rfl)
  have d__law_tries : Dk P w K mg base 2 "_law_tries" P__law_tries (sp__law_tries K) := ⟨_, fd__law_tries, ok__law_tries Q__law_tries T d__law_off, b__law_tries, g__law_tries, F__law_tries.kp⟩
  have Q__law_size : Fun K "_law_size" "_law_size" s__law_size _ fd__law_size := fun_of F__law_size
  have b__law_size : Binds K fd__law_size P__law_size [] := Q__law_size.binds fun _ _ _ _ _ _ us hl => match us, hl with | [_, _], _ => rfl
  have g__law_size := He.glo_ok X G (c.1.fact 4 (f := .glo "_law_size") rfl)
  have d__law_size : Dk P w K mg base 1 "_law_size" P__law_size (sp__law_size K) := ⟨_, fd__law_size, ok__law_size Q__law_size T, b__law_size, g__law_size, F__law_size.kp⟩
  have Q__law_truth : Fun K "_law_truth" "_law_truth" s__law_truth _ fd__law_truth := fun_of F__law_truth
  have b__law_truth : Binds K fd__law_truth P__law_truth [] := Q__law_truth.binds fun _ _ _ _ _ _ us hl => match us, hl with | [_, _, _], _ => rfl
  have g__law_truth := He.glo_ok X G (c.1.fact 5 (f := .glo "_law_truth") rfl)
  have d__law_truth : Dk P w K mg base 2 "_law_truth" P__law_truth (sp__law_truth K) := ⟨_, fd__law_truth, ok__law_truth Q__law_truth T d__law_off d__law_size, b__law_truth, g__law_truth, F__law_truth.kp⟩
  have Q__law_case : Fun K "_law_case" "_law_case" s__law_case _ fd__law_case := fun_of F__law_case
  have b__law_case : Binds K fd__law_case P__law_case [] := Q__law_case.binds fun _ _ _ _ _ _ us hl => match us, hl with | [_, _, _], _ => rfl
  have g__law_case := He.glo_ok X G (c.1.fact 6 (f := .glo "_law_case") rfl)
  have d__law_case : Dk P w K mg base 3 "_law_case" P__law_case (sp__law_case K) := ⟨_, fd__law_case, ok__law_case Q__law_case T d__law_contest d__law_tries d__law_truth, b__law_case, g__law_case, F__law_case.kp⟩
  have Q__law_dice : Fun K "_law_dice" "_law_dice" s__law_dice _ fd__law_dice := fun_of F__law_dice
  have b__law_dice : Binds K fd__law_dice P__law_dice [] := Q__law_dice.binds fun _ _ _ _ _ _ us hl => match us, hl with | [_, _], _ => rfl
  have g__law_dice := He.glo_ok X G (c.1.fact 7 (f := .glo "_law_dice") rfl)
  have d__law_dice : Dk P w K mg base 1 "_law_dice" P__law_dice (sp__law_dice K) := ⟨_, fd__law_dice, ok__law_dice Q__law_dice T, b__law_dice, g__law_dice, F__law_dice.kp⟩
  have Q__law_is_whole : Fun K "_law_is_whole" "_law_is_whole" s__law_is_whole _ fd__law_is_whole := fun_of F__law_is_whole
  have b__law_is_whole : Binds K fd__law_is_whole P__law_is_whole [] := Q__law_is_whole.binds fun _ _ _ _ _ _ us hl => match us, hl with | [_], _ => rfl
  have g__law_is_whole := He.glo_ok X G (c.1.fact 8 (f := .glo "_law_is_whole") rfl)
  have d__law_is_whole : Dk P w K mg base 1 "_law_is_whole" P__law_is_whole (sp__law_is_whole K) := ⟨_, fd__law_is_whole, ok__law_is_whole Q__law_is_whole T, b__law_is_whole, g__law_is_whole, F__law_is_whole.kp⟩
  have Q__law_matter : Fun K "_law_matter" "_law_matter" s__law_matter _ fd__law_matter := fun_of F__law_matter
  have b__law_matter : Binds K fd__law_matter P__law_matter [] := Q__law_matter.binds fun _ _ _ _ _ _ us hl => match us, hl with | [_, _, _], _ => rfl
  have g__law_matter := He.glo_ok X G (c.1.fact 9 (f := .glo "_law_matter") rfl)
  have d__law_matter : Dk P w K mg base 2 "_law_matter" P__law_matter (sp__law_matter K) := ⟨_, fd__law_matter, ok__law_matter Q__law_matter T d__law_is_whole d__law_size, b__law_matter, g__law_matter, F__law_matter.kp⟩
  have Q__law_mixed : Fun K "_law_mixed" "_law_mixed" s__law_mixed _ fd__law_mixed := fun_of F__law_mixed
  have b__law_mixed : Binds K fd__law_mixed P__law_mixed [] := Q__law_mixed.binds fun _ _ _ _ _ _ us hl => match us, hl with | [_, _], _ => rfl
  have g__law_mixed := He.glo_ok X G (c.1.fact 10 (f := .glo "_law_mixed") rfl)
  have d__law_mixed : Dk P w K mg base 2 "_law_mixed" P__law_mixed (sp__law_mixed K) := ⟨_, fd__law_mixed, ok__law_mixed Q__law_mixed T d__law_off, b__law_mixed, g__law_mixed, F__law_mixed.kp⟩
  have Q__law_some : Fun K "_law_some" "_law_some" s__law_some _ fd__law_some := fun_of F__law_some
  have b__law_some : Binds K fd__law_some P__law_some [] := Q__law_some.binds fun _ _ _ _ _ _ us hl => match us, hl with | [_, _, _], _ => rfl
  have g__law_some := He.glo_ok X G (c.1.fact 11 (f := .glo "_law_some") rfl)
  have d__law_some : Dk P w K mg base 3 "_law_some" P__law_some (sp__law_some K) := ⟨_, fd__law_some, ok__law_some Q__law_some T d__law_mixed d__law_off, b__law_some, g__law_some, F__law_some.kp⟩
  have Q_state_of : Fun K "state_of" "state_of" s_state_of _ fd_state_of := fun_of F_state_of
  have b_state_of : Binds K fd_state_of P_state_of [] := Q_state_of.binds fun _ _ _ _ _ _ us hl => match us, hl with | [_], _ => rfl
  have g_state_of := He.glo_ok X G (c.1.fact 12 (f := .glo "state_of") rfl)
  have d_state_of : Dk P w K mg base 1 "state_of" P_state_of (sp_state_of K) := ⟨_, fd_state_of, ok_state_of Q_state_of T, b_state_of, g_state_of, F_state_of.kp⟩
  have Q_group_states : Fun K "group_states" "group_states" s_group_states _ fd_group_states := fun_of F_group_states
  have b_group_states : Binds K fd_group_states P_group_states [] := Q_group_states.binds fun _ _ _ _ _ _ us hl => match us, hl with | [_, _, _, _], _ => rfl
  have g_group_states := He.glo_ok X G (c.1.fact 13 (f := .glo "group_states") rfl)
  have d_group_states : Dk P w K mg base 2 "group_states" P_group_states (sp_group_states K) := ⟨_, fd_group_states, ok_group_states Q_group_states T d_state_of, b_group_states, g_group_states, F_group_states.kp⟩
  have Q_numbers_of : Fun K "numbers_of" "numbers_of" s_numbers_of _ fd_numbers_of := fun_of F_numbers_of
  have b_numbers_of : Binds K fd_numbers_of P_numbers_of [] := Q_numbers_of.binds fun _ _ _ _ _ _ us hl => match us, hl with | [_, _, _, _, _], _ => rfl
  have g_numbers_of := He.glo_ok X G (c.1.fact 14 (f := .glo "numbers_of") rfl)
  have d_numbers_of : Dk P w K mg base 1 "numbers_of" P_numbers_of (sp_numbers_of K) := ⟨_, fd_numbers_of, ok_numbers_of Q_numbers_of T, b_numbers_of, g_numbers_of, F_numbers_of.kp⟩
  have Q_try_state : Fun K "try_state" "try_state" s_try_state _ fd_try_state := fun_of F_try_state
  have b_try_state : Binds K fd_try_state P_try_state [] := Q_try_state.binds fun _ _ _ _ _ _ us hl => match us, hl with | [_, _, _, _], _ => rfl
  have g_try_state := He.glo_ok X G (c.1.fact 15 (f := .glo "try_state") rfl)
  have d_try_state : Dk P w K mg base 3 "try_state" P_try_state (sp_try_state K) := ⟨_, fd_try_state, ok_try_state Q_try_state T d_group_states, b_try_state, g_try_state, F_try_state.kp⟩
  have Q_is_over : Fun K "is_over" "is_over" s_is_over _ fd_is_over := fun_of F_is_over
  have b_is_over : Binds K fd_is_over P_is_over [] := Q_is_over.binds fun _ _ _ _ _ _ us hl => match us, hl with | [_, _, _, _], _ => rfl
  have g_is_over := He.glo_ok X G (c.1.fact 16 (f := .glo "is_over") rfl)
  have d_is_over : Dk P w K mg base 4 "is_over" P_is_over (sp_is_over K) := ⟨_, fd_is_over, ok_is_over Q_is_over T d_numbers_of d_try_state, b_is_over, g_is_over, F_is_over.kp⟩
  have Q_open_trials : Fun K "open_trials" "open_trials" s_open_trials _ fd_open_trials := fun_of F_open_trials
  have b_open_trials : Binds K fd_open_trials P_open_trials [] := Q_open_trials.binds fun _ _ _ _ _ _ us hl => match us, hl with | [_, _, _, _], _ => rfl
  have g_open_trials := He.glo_ok X G (c.1.fact 17 (f := .glo "open_trials") rfl)
  have d_open_trials : Dk P w K mg base 5 "open_trials" P_open_trials (sp_open_trials K) := ⟨_, fd_open_trials, ok_open_trials Q_open_trials T d_group_states d_is_over, b_open_trials, g_open_trials, F_open_trials.kp⟩
  have Q_all_open : Fun K "all_open" "all_open" s_all_open _ fd_all_open := fun_of F_all_open
  have b_all_open : Binds K fd_all_open P_all_open [] := Q_all_open.binds fun _ _ _ _ _ _ us hl => match us, hl with | [_, _, _], _ => rfl
  have g_all_open := He.glo_ok X G (c.1.fact 18 (f := .glo "all_open") rfl)
  have d_all_open : Dk P w K mg base 6 "all_open" P_all_open (sp_all_open K) := ⟨_, fd_all_open, ok_all_open Q_all_open T d_open_trials, b_all_open, g_all_open, F_all_open.kp⟩
  have Q_is_between : Fun K "is_between" "is_between" s_is_between _ fd_is_between := fun_of F_is_between
  have b_is_between : Binds K fd_is_between P_is_between [] := Q_is_between.binds fun _ _ _ _ _ _ us hl => match us, hl with | [_, _, _], _ => rfl
  have g_is_between := He.glo_ok X G (c.1.fact 19 (f := .glo "is_between") rfl)
  have d_is_between : Dk P w K mg base 1 "is_between" P_is_between (sp_is_between K) := ⟨_, fd_is_between, ok_is_between Q_is_between T, b_is_between, g_is_between, F_is_between.kp⟩
  have Q_is_group : Fun K "is_group" "is_group" s_is_group _ fd_is_group := fun_of F_is_group
  have b_is_group : Binds K fd_is_group P_is_group [] := Q_is_group.binds fun _ _ _ _ _ _ us hl => match us, hl with | [_], _ => rfl
  have g_is_group := He.glo_ok X G (c.1.fact 20 (f := .glo "is_group") rfl)
  have d_is_group : Dk P w K mg base 2 "is_group" P_is_group (sp_is_group K) := ⟨_, fd_is_group, ok_is_group Q_is_group T d_is_between, b_is_group, g_is_group, F_is_group.kp⟩
  have Q_need_tasks : Fun K "need_tasks" "need_tasks" s_need_tasks _ fd_need_tasks := fun_of F_need_tasks
  have b_need_tasks : Binds K fd_need_tasks P_need_tasks [] := Q_need_tasks.binds fun _ _ _ _ _ _ us hl => match us, hl with | [_, _], _ => rfl
  have g_need_tasks := He.glo_ok X G (c.1.fact 21 (f := .glo "need_tasks") rfl)
  have d_need_tasks : Dk P w K mg base 3 "need_tasks" P_need_tasks (sp_need_tasks K) := ⟨_, fd_need_tasks, ok_need_tasks Q_need_tasks T d_is_between d_is_group, b_need_tasks, g_need_tasks, F_need_tasks.kp⟩
  have Q_need_contest : Fun K "need_contest" "need_contest" s_need_contest _ fd_need_contest := fun_of F_need_contest
  have b_need_contest : Binds K fd_need_contest P_need_contest [] := Q_need_contest.binds fun _ _ _ _ _ _ us hl => match us, hl with | [_], _ => rfl
  have g_need_contest := He.glo_ok X G (c.1.fact 22 (f := .glo "need_contest") rfl)
  have d_need_contest : Dk P w K mg base 4 "need_contest" P_need_contest (sp_need_contest K) := ⟨_, fd_need_contest, ok_need_contest Q_need_contest T d_is_between d_need_tasks, b_need_contest, g_need_contest, F_need_contest.kp⟩
  have Q_is_try : Fun K "is_try" "is_try" s_is_try _ fd_is_try := fun_of F_is_try
  have b_is_try : Binds K fd_is_try P_is_try [] := Q_is_try.binds fun _ _ _ _ _ _ us hl => match us, hl with | [_, _], _ => rfl
  have g_is_try := He.glo_ok X G (c.1.fact 23 (f := .glo "is_try") rfl)
  have d_is_try : Dk P w K mg base 2 "is_try" P_is_try (sp_is_try K) := ⟨_, fd_is_try, ok_is_try Q_is_try T d_is_between, b_is_try, g_is_try, F_is_try.kp⟩
  have Q_need_tries : Fun K "need_tries" "need_tries" s_need_tries _ fd_need_tries := fun_of F_need_tries
  have b_need_tries : Binds K fd_need_tries P_need_tries [] := Q_need_tries.binds fun _ _ _ _ _ _ us hl => match us, hl with | [_, _], _ => rfl
  have g_need_tries := He.glo_ok X G (c.1.fact 24 (f := .glo "need_tries") rfl)
  have d_need_tries : Dk P w K mg base 3 "need_tries" P_need_tries (sp_need_tries K) := ⟨_, fd_need_tries, ok_need_tries Q_need_tries T d_is_try, b_need_tries, g_need_tries, F_need_tries.kp⟩
  have Q_trials_of : Fun K "trials_of" "trials_of" s_trials_of _ fd_trials_of := fun_of F_trials_of
  have b_trials_of : Binds K fd_trials_of P_trials_of [] := Q_trials_of.binds fun _ _ _ _ _ _ us hl => match us, hl with | [_, _], _ => rfl
  have g_trials_of := He.glo_ok X G (c.1.fact 25 (f := .glo "trials_of") rfl)
  have d_trials_of : Dk P w K mg base 1 "trials_of" P_trials_of (sp_trials_of K) := ⟨_, fd_trials_of, ok_trials_of Q_trials_of T, b_trials_of, g_trials_of, F_trials_of.kp⟩
  have Q_is_verdict : Fun K "is_verdict" "is_verdict" s_is_verdict _ fd_is_verdict := fun_of F_is_verdict
  have b_is_verdict : Binds K fd_is_verdict P_is_verdict [] := Q_is_verdict.binds fun _ _ _ _ _ _ us hl => match us, hl with | [_, _, _], _ => rfl
  have g_is_verdict := He.glo_ok X G (c.1.fact 26 (f := .glo "is_verdict") rfl)
  have d_is_verdict : Dk P w K mg base 2 "is_verdict" P_is_verdict (sp_is_verdict K) := ⟨_, fd_is_verdict, ok_is_verdict Q_is_verdict T d_is_between d_trials_of, b_is_verdict, g_is_verdict, F_is_verdict.kp⟩
  have Q_need_verdicts : Fun K "need_verdicts" "need_verdicts" s_need_verdicts _ fd_need_verdicts := fun_of F_need_verdicts
  have b_need_verdicts : Binds K fd_need_verdicts P_need_verdicts [] := Q_need_verdicts.binds fun _ _ _ _ _ _ us hl => match us, hl with | [_, _, _], _ => rfl
  have g_need_verdicts := He.glo_ok X G (c.1.fact 27 (f := .glo "need_verdicts") rfl)
  have d_need_verdicts : Dk P w K mg base 3 "need_verdicts" P_need_verdicts (sp_need_verdicts K) := ⟨_, fd_need_verdicts, ok_need_verdicts Q_need_verdicts T d_is_verdict, b_need_verdicts, g_need_verdicts, F_need_verdicts.kp⟩
  have Q_need_all : Fun K "need_all" "need_all" s_need_all _ fd_need_all := fun_of F_need_all
  have b_need_all : Binds K fd_need_all P_need_all [] := Q_need_all.binds fun _ _ _ _ _ _ us hl => match us, hl with | [_, _, _], _ => rfl
  have g_need_all := He.glo_ok X G (c.1.fact 28 (f := .glo "need_all") rfl)
  have d_need_all : Dk P w K mg base 5 "need_all" P_need_all (sp_need_all K) := ⟨_, fd_need_all, ok_need_all Q_need_all T d_need_contest d_need_tries d_need_verdicts, b_need_all, g_need_all, F_need_all.kp⟩
  have Q_table_of : Fun K "table_of" "table_of" s_table_of _ fd_table_of := fun_of F_table_of
  have b_table_of : Binds K fd_table_of P_table_of [] := Q_table_of.binds fun _ _ _ _ _ _ us hl => match us, hl with | [_], _ => rfl
  have g_table_of := He.glo_ok X G (c.1.fact 29 (f := .glo "table_of") rfl)
  have d_table_of : Dk P w K mg base 1 "table_of" P_table_of (sp_table_of K) := ⟨_, fd_table_of, ok_table_of Q_table_of T, b_table_of, g_table_of, F_table_of.kp⟩
  have Q_matter : Fun K "matter" "matter" s_matter _ fd_matter := fun_of F_matter
  have b_matter : Binds K fd_matter P_matter [] := Q_matter.binds fun _ _ _ _ _ _ us hl => match us, hl with | [_, _, _], _ => rfl
  have g_matter := He.glo_ok X G (c.1.fact 30 (f := .glo "matter") rfl)
  have d_matter : Dk P w K mg base 7 "matter" P_matter (sp_matter K) := ⟨_, fd_matter, ok_matter Q_matter T d_all_open d_need_all d_table_of, b_matter, g_matter, F_matter.kp⟩
  have Q_law : Fun K "law" "law" s_law _ fd_law := fun_of F_law
  exact ok_law Q_law T d__law_alike d__law_case d__law_dice d__law_matter d__law_off d__law_some d__law_tries d__law_truth d_matter
end J
open PySem PySem.W PySem.Calls PyProof.Rows in
set_option maxRecDepth 100000 in
set_option maxHeartbeats 0 in
theorem PySem.Challenge.cw_judgehall_k05_what_matters_holds : PySem.Challenge.rw_judgehall_k05_what_matters.Holds := by
  w_on; o_law
  refine HandSHeadRun.head_any (r := OpenLaw.row PySem.Challenge.rw_judgehall_k05_what_matters) (q := view (OpenLaw.row PySem.Challenge.rw_judgehall_k05_what_matters).prog [55]) (H := J.hk) (ob := J.ob) (M := 60000) (loose := J.loose) (d := HandSHeadRun.topDef (OpenLaw.row PySem.Challenge.rw_judgehall_k05_what_matters).prog 55) (kwd := []) J.ob_eq
    (by kernel_rfl) (fun s => by kernel_rfl) J.run (by kernel_rfl) (by kernel_rfl) (by kernel_rfl) (by rfl) (by first | assumption | decide +kernel) (by decide +kernel) ⟨rfl, rfl, rfl, rfl, rfl, by decide +kernel⟩ ?hw ?hc
  case hw => w_witness2
  case hc =>
    refine L2.walk_ofE (l := PySem.Challenge.rw_judgehall_k05_what_matters) (n := 63) (k := 9) (x := "_law_script") (CX := L2.CX0) rfl (by decide) (by kernel_rfl) ⟨rfl, by decide, by decide⟩ ?F (fun _ _ _ _ z => z)
    intro w mg fa h Y G hmg0
    obtain ⟨K, KX, c⟩ := Y
    have hmg : mg ("law" : PySem.Str) = some (.ref fa) := by
      have e : (HandSHeadRun.topDef (OpenLaw.row PySem.Challenge.rw_judgehall_k05_what_matters).prog 55).name = ("law" : PySem.Str) := by kernel_rfl
      rw [← e]
      exact hmg0
    obtain ⟨fd, hb, hF⟩ := J.facts (P := (PySem.Challenge.rw_judgehall_k05_what_matters).prog) (w := w) KX G hmg c
    exact ⟨K, fd, J.sp_law K, KX, hb, fun H a ns hl _ hS => ⟨a, ns, rfl, hS, hl, fun _ => rfl⟩, hF⟩
