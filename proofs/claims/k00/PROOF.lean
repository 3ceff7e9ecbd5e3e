import PyProof.Rows.All
import Wide.All
import OpenK.AllK
import Wide.FinOn
import HandS.ForMost
import HandS.Exc
import HandS.ExcOwn
import HandS.Lambda
import HandS.Flow
import HandS.TupAny
import HandS.Deep
import HandS.Conv
import HandS.Style
import HandS.IsInst
import HandS.Property
import HandS.MakeKw
import HandS.ExcIs
import HandS.OwnEq
import HandS.Walk
import HandS.Strs
import HandS.RaiseMore
import PyProof.ReprRoads
import PyProof.ListStr
import PyProof.CallFns
import HandS.Iter
import HandS.ExcValue
import HandS.Dict
import HandS.EndTab
import HandS.HeadWalk
import HandS.HeadHook4
import HandS.Head2
import HandS.HeadNt
import PyProof.ExcBaseAll.ValueError
import PySem.Challenge.RW_allhands_k00_whole_yards
import HandS.HeadEnd
/-! ## AhD -/
set_option Elab.async false
set_option linter.all false
set_option maxRecDepth 100000
set_option maxHeartbeats 2000000
/-! Ah: pure data, what it means of values over the abstract heap, and the small rules of carrying it along. -/
namespace Ah
open PySem PySem.Spec PyProof.Rows L2

/-- pure data -/
inductive D where
  | non | bl (b : Bool) | int (i : Int) | str (s : Str)
  | tup (ds : List D) | lst (ds : List D)
  | dct (ks : List Key) (ds : List D)
  | ins (c : Nat) (ds : List D)
  | exc (c : Nat) (ds : List D)
  | drw
  | scr (ns : List Int)

mutual
def D.toPy : D → Option PyData
  | .non => some .none
  | .bl b => some (.bool b)
  | .int i => some (.int i)
  | .str s => some (.str s)
  | .tup ds => match D.toPyL ds with | some l => some (.tuple l) | none => none
  | .lst ds => match D.toPyL ds with | some l => some (.list l) | none => none
  | _ => none
def D.toPyL : List D → Option (List PyData)
  | [] => some []
  | d :: ds => match D.toPy d, D.toPyL ds with | some a, some l => some (a :: l) | _, _ => none
end
mutual
/-- no list, no dict, no draw within -/
def D.imm : D → Bool
  | .non => true | .bl _ => true | .int _ => true | .str _ => true
  | .tup ds => D.immL ds
  | .ins _ ds => D.immL ds
  | .exc _ ds => D.immL ds
  | _ => false
def D.immL : List D → Bool
  | [] => true
  | d :: ds => D.imm d && D.immL ds
end
/-- the greatest length of a text, a list, a tuple of ours -/
def LIM : Nat := 1000000
def sOk (s : Str) : Bool := PySem.PyData.strOk s && decide (s.length ≤ LIM)

/-- where things stand: the written part, the draw's dict and its two lists, the tables of lambdas, the classes -/
structure G where
  K : PySem.W.Frag
  dp : Addr
  lp : Addr
  cp : Addr
  T : List (Addr × Str)
  cls : Nat → Addr × List Str
  ecl : Nat → Addr × List Str
  cells : List Int
  live : Bool

/-- an exception's object -/
def ExT (cls : Value) (d : Option Addr) (a : Addr) : HO := .ext fun h => ∃ oe vs, h.get? a = some oe ∧ Zc cls d oe ∧ oe.data = .fields vs

abbrev Bar := Addr → Prop
/-- flat data -/
def D.flat : D → Option V
  | .non => some .non
  | .bl b => some (.bl b)
  | .int i => some (.int i)
  | .str s => if sOk s then some (.str s) else none
  | _ => none
/-- the exception's own dict -/
def XFs (G : G) (c : Nat) (d : Option Addr) (H : Hp) (ds : List D) : Prop :=
  ((G.ecl c).2 = [] ∧ ds = [] ∧ d = none) ∨ ∃ x vs, d = some x ∧ (G.ecl c).2 ≠ [] ∧ ds.map D.flat = vs.map some ∧ (G.ecl c).2.length = vs.length ∧ H x = some (.xd ((G.ecl c).2.zip vs))

/-- the law's list of numbers -/
def ScrAt (G : G) (B : Bar) (H : Hp) (a : Addr) (ns : List Int) : Prop := (¬ B a ∧ Rd H a (.lst (ns.map V.int))) ∨
  ∃ (o : Obj) (its : Array Value) (n : Nat), G.K.lookup a = some o ∧ o.cls = .type "list" ∧ o.dict = none ∧ o.data = .seq its n ∧ its.size ≤ sizeLine ∧ Vals (ns.map V.int) its.toList
theorem ScrAt.sq {G : G} {B : Bar} {H : Hp} {a : Addr} {ns : List Int} (h : ScrAt G B H a ns) : SqL G.K H a (ns.map V.int) := h.elim (fun h => .inl h.2) .inr
mutual
/-- the value is the data; no list or dict or instance of it at a barred address -/
inductive Den (G : G) (B : Bar) (H : Hp) : D → V → Prop
  | non : Den G B H .non .non
  | bl (b : Bool) : Den G B H (.bl b) (.bl b)
  | int (i : Int) : Den G B H (.int i) (.int i)
  | str {s : Str} : sOk s = true → Den G B H (.str s) (.str s)
  | tup {a : Addr} {ds : List D} {vs : List V} : SqT G.K H a vs → DenL G B H ds vs → ds.length ≤ LIM → Den G B H (.tup ds) (.ref a)
  | lst {a : Addr} {ds : List D} {vs : List V} : ¬ B a → H a = some (.lst vs) → DenL G B H ds vs → ds.length ≤ LIM → Den G B H (.lst ds) (.ref a)
  | dct {a : Addr} {ks : List Key} {ds : List D} {kvs : List (Key × V)} : ¬ B a → H a = some (.dK kvs) → kvs.map (·.1) = ks → DenL G B H ds (kvs.map (·.2)) → ks.length ≤ LIM → Den G B H (.dct ks ds) (.ref a)
  | ins {a dx : Addr} {c : Nat} {ds : List D} {vs : List V} : ¬ B a → H a = some (.ins (G.cls c).1 dx ((G.cls c).2.zip vs)) → (G.cls c).2.length = vs.length → DenL G B H ds vs → Den G B H (.ins c ds) (.ref a)
  | exc {a : Addr} {d : Option Addr} {c : Nat} {ds : List D} : H a = some (ExT (.ref (G.ecl c).1) d a) → XFs G c d H ds → Den G B H (.exc c ds) (.ref a)
  | drw : G.live = true → Den G B H .drw (.ref G.dp)
  | scr {a : Addr} {ns : List Int} : ScrAt G B H a ns → Den G B H (.scr ns) (.ref a)
inductive DenL (G : G) (B : Bar) (H : Hp) : List D → List V → Prop
  | nil : DenL G B H [] []
  | cons {d : D} {ds : List D} {v : V} {vs : List V} : Den G B H d v → DenL G B H ds vs → DenL G B H (d :: ds) (v :: vs)
end

/-- the draw's state -/
structure Dr where
  large : List Int
  rest : Int
  cells : List Int
  turn : Int
  deriving DecidableEq

def drD (G : G) (s : Dr) : List (Key × V) := [(.inr "large", .ref G.lp), (.inr "rest", .int s.rest), (.inr "cells", .ref G.cp), (.inr "turn", .int s.turn)]
structure DrAt (G : G) (s : Dr) (H : Hp) : Prop where
  d : G.live = true → H G.dp = some (.dK (drD G s))
  l : G.live = true → H G.lp = some (.lst (s.large.map V.int))
  c : G.live = true → H G.cp = some (.lst (s.cells.map V.int))
  ne : G.live = true → G.lp ≠ G.cp
  eq : G.live = true → s.cells = G.cells
def isDr (G : G) (a : Addr) : Prop := G.live = true ∧ (a = G.dp ∨ a = G.lp ∨ a = G.cp)
structure Good (G : G) (s : Dr) (H : Hp) : Prop where
  dr : DrAt G s H
  tabs : LamX.Tabs G.T H
/-- all that stood stands, but the draw's own things and the tables -/
def Ext (G : G) (H H' : Hp) : Prop := ∀ a o, H a = some o → ¬ isDr G a → (∀ ps, o ≠ .tbl ps) → H' a = some o
/-- what is barred: lists, dicts, instances that are there; the draw's things -/
structure BOk (G : G) (B : Bar) (H : Hp) : Prop where
  there : ∀ a, B a → ∃ o, H a = some o ∧ ∀ ps, o ≠ .tbl ps
  dr : ∀ a, isDr G a → B a

section
variable {G : G} {B B' : Bar} {H H' H1 H2 : Hp} {s s' : Dr}
theorem Ext.refl : Ext G H H := fun _ _ h _ _ => h
theorem Ext.trans (x : Ext G H H1) (y : Ext G H1 H2) : Ext G H H2 := fun a o h n t => y a o (x a o h n t) n t
theorem Ext.upd {p : Addr} {o : HO} (h : H p = none) : Ext G H (L2.upd H p o) := fun a u e _ _ => by rw [upd_ne (ne_of_none e h)]; exact e
theorem DrAt.there (d : DrAt G s H) {a : Addr} (h : isDr G a) : ∃ o, H a = some o ∧ ∀ ps, o ≠ .tbl ps := by
  rcases h with ⟨hl, rfl | rfl | rfl⟩
  · exact ⟨_, d.d hl, fun _ z => nomatch z⟩
  · exact ⟨_, d.l hl, fun _ z => nomatch z⟩
  · exact ⟨_, d.c hl, fun _ z => nomatch z⟩
theorem BOk.ext (b : BOk G B H) (x : Ext G H H') (g : DrAt G s H') : BOk G B H' := ⟨fun a h => by
  by_cases hd : isDr G a
  · exact g.there hd
  · obtain ⟨o, e, t⟩ := b.there a h
    exact ⟨o, x a o e hd t, t⟩, b.dr⟩
theorem BOk.none (b : BOk G B H) {a : Addr} (h : H a = none) : ¬ B a := fun hb => by
  obtain ⟨o, e, _⟩ := b.there a hb
  rw [h] at e; cases e
theorem BOk.upd (b : BOk G B H) {p : Addr} {o : HO} (h : H p = Option.none) : BOk G B (L2.upd H p o) := ⟨fun a hb => by
  obtain ⟨u, e, t⟩ := b.there a hb
  exact ⟨u, by rw [upd_ne (ne_of_none e h)]; exact e, t⟩, b.dr⟩
theorem DrAt.upd (d : DrAt G s H) {p : Addr} {o : HO} (h : H p = none) : DrAt G s (L2.upd H p o) :=
  ⟨fun hl => by rw [upd_ne (ne_of_none (d.d hl) h)]; exact d.d hl, fun hl => by rw [upd_ne (ne_of_none (d.l hl) h)]; exact d.l hl, fun hl => by rw [upd_ne (ne_of_none (d.c hl) h)]; exact d.c hl, d.ne, d.eq⟩
theorem Good.upd (g : Good G s H) {p : Addr} {o : HO} (h : H p = none) : Good G s (L2.upd H p o) :=
  ⟨g.dr.upd h, g.tabs.ext fun b u e => by rw [upd_ne (ne_of_none e h)]; exact e⟩

theorem Rd.ext {a : Addr} {o : HO} (r : Rd H a o) (x : Ext G H H') (n : ¬ isDr G a) (t : ∀ ps, o ≠ .tbl ps) : Rd H' a o := by
  rcases r with r | ⟨u, r⟩
  · exact .inl (x a o r n t)
  · exact .inr ⟨u, x a _ r n fun _ z => nomatch z⟩
theorem isDr_not_tup (d : DrAt G s H) {a : Addr} {xs : List V} (r : Rd H a (.tup xs)) : ¬ isDr G a := fun z => by
  rcases z with ⟨hl, rfl | rfl | rfl⟩
  · rcases r with r | ⟨u, r⟩ <;> rw [d.d hl] at r <;> cases r
  · rcases r with r | ⟨u, r⟩ <;> rw [d.l hl] at r <;> cases r
  · rcases r with r | ⟨u, r⟩ <;> rw [d.c hl] at r <;> cases r
theorem isDr_not {o : HO} (d : DrAt G s H) {a : Addr} (r : H a = some o) (h1 : ∀ kvs, o ≠ .dK kvs) (h2 : ∀ xs, o ≠ .lst xs) : ¬ isDr G a := fun z => by
  rcases z with ⟨hl, rfl | rfl | rfl⟩
  · rw [d.d hl] at r; exact h1 _ (Option.some.inj r).symm
  · rw [d.l hl] at r; exact h2 _ (Option.some.inj r).symm
  · rw [d.c hl] at r; exact h2 _ (Option.some.inj r).symm
theorem SqT_ext {a : Addr} {xs : List V} (h : SqT G.K H a xs) (x : Ext G H H') (d : DrAt G s H) : SqT G.K H' a xs := by
  rcases h with r | h
  · exact .inl (Rd.ext r x (isDr_not_tup d r) fun _ z => nomatch z)
  · exact .inr h
theorem XFs.ext {c : Nat} {d : Option Addr} {ds : List D} (h : XFs G c d H ds) (x : Ext G H H') (dr : DrAt G s H) : XFs G c d H' ds := by
  rcases h with h | ⟨y, vs, e, ne, fl, l, q⟩
  · exact .inl h
  · exact .inr ⟨y, vs, e, ne, fl, l, x _ _ q (isDr_not dr q (fun _ z => nomatch z) fun _ z => nomatch z) fun _ z => nomatch z⟩
mutual
theorem Den.ext0 (x : Ext G H H') (dr : DrAt G s H) : ∀ {B : Bar} (d : D) {v : V}, (∀ a, isDr G a → B a) → Den G B H d v → Den G B H' d v
  | _, .non, _, _, .non => .non
  | _, .bl _, _, _, .bl b => .bl b
  | _, .int _, _, _, .int i => .int i
  | _, .str _, _, _, .str h => .str h
  | _, .tup ds, _, hB, .tup q l z => .tup (SqT_ext q x dr) (DenL.ext0 x dr ds hB l) z
  | _, .lst ds, _, hB, .lst n q l z => .lst n (x _ _ q (fun z => n (hB _ z)) fun _ z => nomatch z) (DenL.ext0 x dr ds hB l) z
  | _, .dct ks ds, _, hB, .dct n q e l z => .dct n (x _ _ q (fun z => n (hB _ z)) fun _ z => nomatch z) e (DenL.ext0 x dr ds hB l) z
  | _, .ins c ds, _, hB, .ins n q e l => .ins n (x _ _ q (fun z => n (hB _ z)) fun _ z => nomatch z) e (DenL.ext0 x dr ds hB l)
  | _, .exc c ds, _, hB, .exc q f => .exc (x _ _ q (isDr_not dr q (fun _ z => nomatch z) fun _ z => nomatch z) fun _ z => nomatch z) (f.ext x dr)
  | _, .drw, _, _, .drw h => .drw h
  | _, .scr _, _, hB, .scr q => .scr (q.elim (fun ⟨n, r⟩ => .inl ⟨n, Rd.ext r x (fun z => n (hB _ z)) fun _ z => nomatch z⟩) .inr)
theorem DenL.ext0 (x : Ext G H H') (dr : DrAt G s H) : ∀ {B : Bar} (ds : List D) {vs : List V}, (∀ a, isDr G a → B a) → DenL G B H ds vs → DenL G B H' ds vs
  | _, [], _, _, .nil => .nil
  | _, d :: ds, _, hB, .cons h t => .cons (Den.ext0 x dr d hB h) (DenL.ext0 x dr ds hB t)
end
theorem Den.ext {d : D} {v : V} (h : Den G B H d v) (x : Ext G H H') (dr : DrAt G s H) (b : BOk G B H) : Den G B H' d v := Den.ext0 x dr d b.dr h
theorem DenL.ext {ds : List D} {vs : List V} (h : DenL G B H ds vs) (x : Ext G H H') (dr : DrAt G s H) (b : BOk G B H) : DenL G B H' ds vs := DenL.ext0 x dr ds b.dr h

/-- nothing stands there, or a table -/
def Nw (H : Hp) (b : Addr) : Prop := ∀ o, H b = some o → ∃ ps, o = .tbl ps
theorem Nw.of {a : Addr} (h : H a = none) : Nw H a := fun o e => by rw [h] at e; cases e
theorem Nw.no {a : Addr} {o : HO} (w : Nw H a) (q : H a = some o) (n : ∀ ps, o ≠ .tbl ps) : False := by
  obtain ⟨ps, e⟩ := w o q
  exact n ps e
mutual
theorem Den.bar : ∀ (d : D) {v : V}, (∀ b, B' b → B b ∨ Nw H b) → Den G B H d v → Den G B' H d v
  | .non, _, _, .non => .non
  | .bl _, _, _, .bl b => .bl b
  | .int _, _, _, .int i => .int i
  | .str _, _, _, .str h => .str h
  | .tup ds, _, hB, .tup q l z => .tup q (DenL.bar ds hB l) z
  | .lst ds, _, hB, .lst n q l z => .lst (fun w => (hB _ w).elim n (fun w => Nw.no w q (fun _ z => nomatch z))) q (DenL.bar ds hB l) z
  | .dct ks ds, _, hB, .dct n q e l z => .dct (fun w => (hB _ w).elim n (fun w => Nw.no w q (fun _ z => nomatch z))) q e (DenL.bar ds hB l) z
  | .ins c ds, _, hB, .ins n q e l => .ins (fun w => (hB _ w).elim n (fun w => Nw.no w q (fun _ z => nomatch z))) q e (DenL.bar ds hB l)
  | .exc c ds, _, hB, .exc q f => .exc q f
  | .drw, _, _, .drw h => .drw h
  | .scr _, _, hB, .scr q => .scr (q.elim (fun ⟨n, r⟩ => .inl ⟨fun w => (hB _ w).elim n (fun w => r.elim (fun r => Nw.no w r (fun _ z => nomatch z)) fun ⟨_, r⟩ => Nw.no w r (fun _ z => nomatch z)), r⟩) .inr)
theorem DenL.bar : ∀ (ds : List D) {vs : List V}, (∀ b, B' b → B b ∨ Nw H b) → DenL G B H ds vs → DenL G B' H ds vs
  | [], _, _, .nil => .nil
  | d :: ds, _, hB, .cons h t => .cons (Den.bar d hB h) (DenL.bar ds hB t)
end
theorem Den.mono {d : D} {v : V} (h : Den G B H d v) (hb : ∀ b, B' b → B b) : Den G B' H d v := Den.bar d (fun b z => .inl (hb b z)) h
theorem DenL.mono {ds : List D} {vs : List V} (h : DenL G B H ds vs) (hb : ∀ b, B' b → B b) : DenL G B' H ds vs := DenL.bar ds (fun b z => .inl (hb b z)) h
/-- a new address may be barred -/
theorem Den.new {d : D} {v : V} {p : Addr} (h : Den G B H d v) (hp : H p = none) : Den G (fun a => B a ∨ a = p) H d v :=
  Den.bar d (fun b z => z.elim .inl fun z => .inr fun o e => by rw [z, hp] at e; cases e) h
theorem DenL.new {ds : List D} {vs : List V} {p : Addr} (h : DenL G B H ds vs) (hp : H p = none) : DenL G (fun a => B a ∨ a = p) H ds vs :=
  DenL.bar ds (fun b z => z.elim .inl fun z => .inr fun o e => by rw [z, hp] at e; cases e) h
mutual
/-- data without lists: bars at lists do not matter -/
theorem Den.imm0 : ∀ (d : D) {v : V}, d.imm = true → (∀ b, B' b → B b ∨ ∃ xs, H b = some (.lst xs)) → Den G B H d v → Den G B' H d v
  | .non, _, _, _, .non => .non
  | .bl _, _, _, _, .bl b => .bl b
  | .int _, _, _, _, .int i => .int i
  | .str _, _, _, _, .str h => .str h
  | .tup ds, _, i, hB, .tup q l z => .tup q (DenL.imm0 ds (by simpa [D.imm] using i) hB l) z
  | .lst ds, _, i, _, _ => by simp [D.imm] at i
  | .dct ks ds, _, i, _, _ => by simp [D.imm] at i
  | .ins c ds, _, i, hB, .ins n q e l => .ins (fun w => (hB _ w).elim n (fun ⟨xs, w⟩ => by rw [q] at w; cases w)) q e (DenL.imm0 ds (by simpa [D.imm] using i) hB l)
  | .exc c ds, _, _, hB, .exc q f => .exc q f
  | .drw, _, i, _, _ => by simp [D.imm] at i
  | .scr _, _, i, _, _ => by simp [D.imm] at i
theorem DenL.imm0 : ∀ (ds : List D) {vs : List V}, D.immL ds = true → (∀ b, B' b → B b ∨ ∃ xs, H b = some (.lst xs)) → DenL G B H ds vs → DenL G B' H ds vs
  | [], _, _, _, .nil => .nil
  | d :: ds, _, i, hB, .cons h t => by
    simp only [D.immL, Bool.and_eq_true] at i
    exact .cons (Den.imm0 d i.1 hB h) (DenL.imm0 ds i.2 hB t)
end
theorem DenL.length : ∀ {ds : List D} {vs : List V}, DenL G B H ds vs → ds.length = vs.length
  | [], _, .nil => rfl
  | _ :: _, _, .cons _ t => congrArg (· + 1) t.length
theorem DenL.get : ∀ {ds : List D} {vs : List V} {i : Nat} {d : D}, DenL G B H ds vs → ds[i]? = some d → ∃ v, vs[i]? = some v ∧ Den G B H d v
  | [], _, _, _, .nil, e => by simp at e
  | _ :: _, _, 0, _, .cons h _, e => by simp at e; subst e; exact ⟨_, rfl, h⟩
  | _ :: _, _, i + 1, _, .cons _ t, e => by
    obtain ⟨v, h1, h2⟩ := DenL.get (i := i) t (by simpa using e)
    exact ⟨v, by simpa using h1, h2⟩
theorem DenL.get' : ∀ {ds : List D} {vs : List V} {i : Nat} {v : V}, DenL G B H ds vs → vs[i]? = some v → ∃ d, ds[i]? = some d ∧ Den G B H d v
  | [], _, _, _, .nil, e => by simp at e
  | _ :: _, _, 0, _, .cons h _, e => by simp at e; subst e; exact ⟨_, rfl, h⟩
  | _ :: _, _, i + 1, _, .cons _ t, e => by
    obtain ⟨d, h1, h2⟩ := DenL.get' (i := i) t (by simpa using e)
    exact ⟨d, by simpa using h1, h2⟩
theorem DenL.append : ∀ {ds es : List D} {vs us : List V}, DenL G B H ds vs → DenL G B H es us → DenL G B H (ds ++ es) (vs ++ us)
  | [], _, _, _, .nil, h => h
  | _ :: _, _, _, _, .cons h t, h' => .cons h (t.append h')
theorem DenL.take : ∀ {ds : List D} {vs : List V} (n : Nat), DenL G B H ds vs → DenL G B H (ds.take n) (vs.take n)
  | _, _, 0, _ => .nil
  | [], _, _ + 1, .nil => .nil
  | _ :: _, _, n + 1, .cons h t => .cons h (t.take n)
theorem DenL.drop : ∀ {ds : List D} {vs : List V} (n : Nat), DenL G B H ds vs → DenL G B H (ds.drop n) (vs.drop n)
  | _, _, 0, h => h
  | [], _, _ + 1, .nil => .nil
  | _ :: _, _, n + 1, .cons _ t => t.drop n
theorem DenL.reverse {ds : List D} {vs : List V} (h : DenL G B H ds vs) : DenL G B H ds.reverse vs.reverse := by
  induction h using DenL.rec (motive_1 := fun _ _ _ => True) with
  | nil => exact .nil
  | cons a b _ ih => rw [List.reverse_cons, List.reverse_cons]; exact ih.append (.cons a .nil)
  | _ => trivial
end

/-! ### results -/
inductive R (α : Type) where
  | ok (a : α) (s : Dr) | exc (c : Nat) (ds : List D) (s : Dr) | no
def R.bind {α β : Type} (r : R α) (k : α → Dr → R β) : R β := match r with
  | .ok a s => k a s
  | .exc c ds s => .exc c ds s
  | .no => .no
@[simp] theorem R.bind_ok {α β : Type} (a : α) (s : Dr) (k : α → Dr → R β) : (R.ok a s).bind k = k a s := rfl
@[simp] theorem R.bind_exc {α β : Type} (c : Nat) (ds : List D) (s : Dr) (k : α → Dr → R β) : (R.exc c ds s : R α).bind k = .exc c ds s := rfl
@[simp] theorem R.bind_no {α β : Type} (k : α → Dr → R β) : (R.no : R α).bind k = .no := rfl
/-- what an exception that comes out is -/
def IsX (G : G) (H : Hp) (c : Nat) (ds : List D) (cls : Value) (d : Option Addr) : Prop :=
  cls = .ref (G.ecl c).1 ∧ XFs G c d H ds
/-- what is wanted, by a result -/
def fin {α β : Type} (rel : Hp → α → β → Prop) (G : G) (E : XK) (H : Hp) (Q : β → Hp → Prop) : R α → Prop
  | .ok a s => ∀ b H', Ext G H H' → Good G s H' → rel H' a b → Q b H'
  | .exc c ds s => ∀ cls d H', Ext G H H' → Good G s H' → IsX G H' c ds cls d → E cls d H'
  | .no => False
section
variable {α β γ δ : Type} {rel : Hp → α → β → Prop} {rel' : Hp → γ → δ → Prop} {G : G} {E : XK} {H H1 : Hp} {Q : β → Hp → Prop} {Q' : δ → Hp → Prop}
theorem fin.at {r : R α} (h : fin rel G E H Q r) (x : Ext G H H1) : fin rel G E H1 Q r := by
  cases r with
  | ok a s => exact fun b H' y g q => h b H' (x.trans y) g q
  | exc c ds s => exact fun cls d H' y g q => h cls d H' (x.trans y) g q
  | no => exact h
theorem fin.mono {r : R α} {Q2 : β → Hp → Prop} (h : fin rel G E H Q r) (k : ∀ b H', Ext G H H' → Q b H' → Q2 b H') : fin rel G E H Q2 r := by
  cases r with
  | ok a s => exact fun b H' y g q => k b H' y (h b H' y g q)
  | exc c ds s => exact h
  | no => exact h
/-- one thing, then the rest -/
theorem fin.bind {r : R γ} {k : γ → Dr → R α} (h : fin rel G E H Q (r.bind k))
    (hk : ∀ a s b H', r = .ok a s → Ext G H H' → Good G s H' → rel' H' a b → fin rel G E H' Q (k a s) → Q' b H') : fin rel' G E H Q' r := by
  cases r with
  | ok a s =>
    intro b H' x g q
    exact hk a s b H' rfl x g q (fin.at (show fin rel G E H Q (k a s) from h) x)
  | exc c ds s => exact h
  | no => exact h
end
/-- of data, of lists of data, of truth values -/
abbrev relD (G : G) (B : Bar) : Hp → D → V → Prop := fun H d v => Den G B H d v
abbrev relL (G : G) (B : Bar) : Hp → List D → List V → Prop := fun H d v => DenL G B H d v
abbrev relB : Hp → Bool → Bool → Prop := fun _ a b => a = b

/-! ### slots -/
abbrev En := List (Option D)
structure Rel (G : G) (B : Bar) (env : En) (σ : L2.St) (H : Hp) : Prop where
  val : ∀ (i : Nat) (d : D), env[i]? = some (some d) → ∃ v, σ[i]? = some (some v) ∧ Den G B H d v
  len : env.length = σ.length
theorem Rel.ext {G : G} {B : Bar} {env : En} {σ : L2.St} {H H' : Hp} {s : Dr} (r : Rel G B env σ H) (x : Ext G H H') (dr : DrAt G s H) (b : BOk G B H) : Rel G B env σ H' :=
  ⟨fun i d e => let ⟨v, h1, h2⟩ := r.val i d e; ⟨v, h1, h2.ext x dr b⟩, r.len⟩
theorem Rel.new {G : G} {B : Bar} {env : En} {σ : L2.St} {H : Hp} {p : Addr} (r : Rel G B env σ H) (hp : H p = none) : Rel G (fun a => B a ∨ a = p) env σ H :=
  ⟨fun i d e => let ⟨v, h1, h2⟩ := r.val i d e; ⟨v, h1, h2.new hp⟩, r.len⟩

/-- where an expression stands -/
structure At (G : G) (B : Bar) (env : En) (s : Dr) (σ : L2.St) (H : Hp) : Prop where
  rel : Rel G B env σ H
  bok : BOk G B H
  good : Good G s H
theorem At.ext {G : G} {B : Bar} {env : En} {σ : L2.St} {H H' : Hp} {s s' : Dr} (a : At G B env s σ H) (x : Ext G H H') (g : Good G s' H') : At G B env s' σ H' := ⟨a.rel.ext x a.good.dr a.bok, a.bok.ext x g.dr, g⟩
/-- a reading by a result -/
def tR (G : G) (E : XK) (r : En → Dr → R D) : TE := fun σ H Q => ∃ B env s, At G B env s σ H ∧ fin (relD G B) G E H Q (r env s)
def tRB (G : G) (E : XK) (r : En → Dr → R Bool) : TT := fun σ H Q => ∃ (B : Bar) (env : En) (s : Dr), At G B env s σ H ∧ fin relB G E H Q (r env s)
def tRL (G : G) (E : XK) (r : En → Dr → R (List D)) : TA := fun σ H Q => ∃ B env s, At G B env s σ H ∧ fin (relL G B) G E H Q (r env s)
theorem PE.imp {X : Cx} {e : Expr} {t t' : TE} (h : PE X e t) (k : ∀ σ H Q, t' σ H Q → t σ H Q) : PE X e t' := ⟨fun pins s σ H Q I q => h.run pins s σ H Q I (k σ H Q q)⟩
theorem PT.imp {X : Cx} {e : Expr} {t t' : TT} (h : PT X e t) (k : ∀ σ H Q, t' σ H Q → t σ H Q) : PT X e t' := ⟨fun pins s σ H Q I q => h.run pins s σ H Q I (k σ H Q q)⟩
theorem PW.imp {X : Cx} {e : Expr} {t t' : TT} (h : PW X e t) (k : ∀ σ H Q, t' σ H Q → t σ H Q) : PW X e t' := ⟨fun w pins s σ H Q I q => h.run w pins s σ H Q I (k σ H Q q)⟩
theorem PA.imp {X : Cx} {es : List Expr} {t t' : TA} (h : PA X es t) (k : ∀ σ H Q, t' σ H Q → t σ H Q) : PA X es t' := ⟨fun pos pins s σ H Q I q => h.run pos pins s σ H Q I (k σ H Q q)⟩
end Ah

/-! ## AhC -/
set_option Elab.async false
set_option linter.all false
set_option maxRecDepth 100000
set_option maxHeartbeats 2000000
/-! Ah: the core syntax and what it is worth. -/
namespace Ah
open PySem PySem.Spec PyProof.Rows L2

inductive Bl where
  | len | tuple | list | all | lenSet | repr | minI | maxI | str | int | abs | sortedS | sum
  deriving DecidableEq
inductive Ty where
  | bi (n : String) | cls (k : Nat) | ecl (k : Nat)
  deriving DecidableEq
/-- targets: a name, or names of a tuple -/
inductive Tg where
  | nm (i : Nat) | tp (is : List Nat)
  deriving DecidableEq
inductive C where
  | nop
  | var (i : Nat)
  | non | bl (b : Bool) | int (i : Int) | str (s : Str)
  | gcon (k : Nat)
  | bin (op : Operator) (a b : C)
  | neg (a : C)
  | not (a : C) | and (a b : C) | or (a b : C)
  | ife (t a b : C)
  | cmp (op : CmpOp) (a b : C)
  | isN (a : C) | notN (a : C)
  | chn (op op2 : CmpOp) (a b c : C)
  | call (f : Nat) (as : C)
  | callK (f : Nat) (ks : List Str) (as kas : C)
  | make (c : Nat) (as : C)
  | makeK (c : Nat) (ks : List Str) (as kas : C)
  | blt (b : Bl) (a : C)
  | blt2 (b : Bl) (a b2 : C)
  | isi (a : C) (ts : List Ty)
  | att (a : C) (x : Str)
  | idx (a b : C)
  | sli (a lo hi : C)
  | rev (a : C)
  | tup (as : C) | lst (as : C) | dic (ks : List Key) (as : C)
  | comp (own : List (Str × Nat)) (e : C) (tg : Tg) (it : C) (cond : C)
  | comp2 (own : List (Str × Nat)) (e : C) (tg : Tg) (it : C) (tg2 : Tg) (it2 : C) (cond : C)
  | rng (a b : C)
  | enm (a : C)
  | caught (e : C)
  | dgi (a : C) (x : Str) | dne (a : C) | dpop (a : C)
  | nil | cons (a r : C)

structure FnI where
  name : Str
  qual : Str
  ps : List Str
  dfl : List D
  N : List Str
  gd : Bool
structure ClI where
  name : Str
  flds : List Str
  init : Nat
  props : List (Str × Nat)
  eqf : Option Nat
structure EcI where
  name : Str
  flds : List Str
structure Prg where
  fns : List FnI
  cls : List ClI
  ecs : List EcI
  gcs : List (Str × D)
  isi : Ty → Ty → Option Bool
/-- what is called -/
structure Cl where
  call : Nat → List D → Dr → R D
  make : Nat → List D → Dr → R D

/-! ### operations -/
/-- the type of data, as isinstance takes it -/
def D.ty : D → Option Ty
  | .non => some (.bi "NoneType") | .bl _ => some (.bi "bool") | .int _ => some (.bi "int") | .str _ => some (.bi "str")
  | .tup _ => some (.bi "tuple") | .lst _ => some (.bi "list") | .dct _ _ => some (.bi "dict")
  | .ins c _ => some (.cls c) | .exc c _ => some (.ecl c) | _ => none
def D.isN : D → Bool | .non => true | _ => false
def D.truth : D → Option Bool
  | .non => some false
  | .bl b => some b
  | .int i => some (i != 0)
  | .str s => some ((s.length : Int) != 0)
  | .tup ds => some (!ds.isEmpty)
  | .lst ds => some (!ds.isEmpty)
  | .dct ks _ => some (!ks.isEmpty)
  | _ => none
def opD (op : Operator) (a b : D) : Option D :=
  match op, a, b with
  | .Add, .int i, .int j => some (.int (i + j))
  | .Add, .str s, .str t => if s.length + t.length ≤ LIM then some (.str (s ++ t)) else none
  | .Add, .lst xs, .lst ys => if xs.length + ys.length ≤ LIM then some (.lst (xs ++ ys)) else none
  | .Add, .tup xs, .tup ys => if xs.length + ys.length ≤ LIM then some (.tup (xs ++ ys)) else none
  | .Sub, .int i, .int j => some (.int (i - j))
  | .Mult, .lst xs, .int j => if 0 ≤ j ∧ j ≤ 1000 ∧ xs.length * j.toNat ≤ LIM then some (.lst (List.replicate j.toNat xs).flatten) else none
  | .Mult, .int i, .int j => if (-(2 ^ 64) < i ∧ i < 2 ^ 64) ∨ (-(2 ^ 64) < j ∧ j < 2 ^ 64) then some (.int (i * j)) else none
  | .Pow, .int i, .int j => if 0 ≤ j ∧ j ≤ 1000000 ∧ i.natAbs < 2 ^ 64 then some (.int (i ^ j.toNat)) else none
  | .Mod, .int i, .int j => if 0 < j then some (.int (i % j)) else none
  | .FloorDiv, .int i, .int j => if 0 < j ∧ j < 1073741824 then some (.int (i / j)) else none
  | _, _, _ => none
/-- data that == takes -/
def D.pyS (d : D) : Option PyData := match d.toPy with
  | some p => if p.depth ≤ 60 then some p else none
  | none => none
def pyEq (a b : D) : Option Bool := match a.pyS, b.pyS with
  | some p, some q => some (PyData.eqv p q)
  | _, _ => none
def strIn (s t : Str) : Bool := !(Builtin.Str.occurrences t s 0 t.length 1).isEmpty
def pyIn (a b : D) : Option Bool := match a, b with
  | .str s, .str t => some (strIn s t)
  | a, .lst ds => match a.pyS, (D.lst ds).pyS with
    | some p, some (.list qs) => some (qs.any fun q => PyData.eqv q p)
    | _, _ => none
  | a, .tup ds => match a.flat, ds.mapM D.flat with
    | some x, some ys => some (inV x ys)
    | _, _ => none
  | _, _ => none
def Key.ofD : D → Option Key
  | .int i => some (.inl i)
  | .str s => some (.inr s)
  | _ => none
def cmpD (op : CmpOp) (a b : D) : Option Bool :=
  match op with
  | .Eq => pyEq a b
  | .NotEq => (pyEq a b).map not
  | .In => pyIn a b
  | .NotIn => (pyIn a b).map not
  | .Lt => match a, b with | .int i, .int j => some (decide (i < j)) | _, _ => none
  | .LtE => match a, b with | .int i, .int j => some (decide (i ≤ j)) | _, _ => none
  | .Gt => match a, b with | .int i, .int j => some (decide (j < i)) | _, _ => none
  | .GtE => match a, b with | .int i, .int j => some (decide (j ≤ i)) | _, _ => none
  | _ => none
def idxD (a b : D) : Option D := match a, b with
  | .lst ds, .int i => atI ds i
  | .tup ds, .int i => atI ds i
  | .str s, .int i => (atI s.cps.toList i).map fun c => .str ⟨#[c]⟩
  | _, _ => none
def cutD {α : Type} (xs : List α) (lo hi : Option Int) : List α := (xs.drop (HT.sIx xs.length 0 lo)).take (HT.sIx xs.length xs.length hi - HT.sIx xs.length 0 lo)
def sliD (a : D) (lo hi : Option Int) : Option D := match a with
  | .lst ds => some (.lst (cutD ds lo hi))
  | .tup ds => some (.tup (cutD ds lo hi))
  | _ => none
def isiL (P : Prg) (t : Ty) : List Ty → Option Bool
  | [] => some false
  | c :: cs => match P.isi t c with
    | some true => some true
    | some false => isiL P t cs
    | none => none
/-- the things that a for, a comprehension walks -/
def items : D → Option (List D)
  | .lst ds => some ds
  | .tup ds => some ds
  | .str s => some (s.cps.toList.map fun c => .str ⟨#[c]⟩)
  | .scr ns => some (ns.map .int)
  | _ => none
def ofO {α : Type} (o : Option α) (s : Dr) : R α := match o with | some a => .ok a s | none => .no
def bltD (b : Bl) (a : D) : Option D := match b, a with
  | .len, .lst ds => some (.int ds.length)
  | .len, .tup ds => some (.int ds.length)
  | .len, .str s => some (.int s.length)
  | .len, .scr ns => some (.int ns.length)
  | .abs, .int i => some (.int (if i < 0 then -i else i))
  | .tuple, .lst ds => some (.tup ds)
  | .tuple, .tup ds => some (.tup ds)
  | .int, .int i => some (.int i)
  | .list, .lst ds => some (.lst ds)
  | .list, .tup ds => some (.lst ds)
  | .list, .str s => some (.lst (s.cps.toList.map fun c => .str ⟨#[c]⟩))
  | .all, .lst ds => match ds.mapM (fun d => match d with | .bl b => some b | _ => none) with | some bs => some (.bl (bs.all id)) | none => none
  | .lenSet, .lst ds => match ds.mapM (fun d => match d with | .str s => some s | _ => none) with | some ss => if ss.length ≤ 4000 then some (.int (ss.eraseDups.length : Nat)) else none | none => none
  | .lenSet, .tup ds => match ds.mapM (fun d => match d with | .str s => some s | _ => none) with | some ss => if ss.length ≤ 4000 then some (.int (ss.eraseDups.length : Nat)) else none | none => none
  | .repr, a => match a.pyS with | some p => if p.showable = true ∧ p.hasDict = false ∧ sOk p.shown = true then some (.str p.shown) else none | none => none
  | _, _ => none
def blt2D (b : Bl) (x y : D) : Option D := match b, x, y with
  | .minI, .int i, .int j => some (.int (if j < i then j else i))
  | .maxI, .int i, .int j => some (.int (if j > i then j else i))
  | _, _, _ => none

/-- slots of a target's names filled -/
def Tg.put (tg : Tg) (d : D) (env : En) : Option En := match tg with
  | .nm i => some (env.set i (some d))
  | .tp is => match d with
    | .tup ds => if ds.length = is.length then some ((is.zip ds).foldl (fun e p => e.set p.1 (some p.2)) env) else none
    | _ => none
def Tg.ixs : Tg → List Nat
  | .nm i => [i]
  | .tp is => is
def wipeE (env : En) : List Nat → En
  | [] => env
  | v :: vs => (wipeE env vs).set v none
/-- one item after another -/
def mapR {α β : Type} (f : α → Dr → R (List β)) : List α → Dr → R (List β)
  | [], s => .ok [] s
  | a :: l, s => (f a s).bind fun o s => (mapR f l s).bind fun bs s => .ok (o ++ bs) s
def R.lim {α : Type} (r : R (List α)) : R (List α) := r.bind fun l s => if l.length ≤ LIM then .ok l s else .no
def isNop : C → Bool | .nop => true | _ => false
/-- nothing raised comes out -/
def R.quiet {α : Type} : R α → R α
  | .ok a s => .ok a s
  | _ => .no
def fldAt (x : Str) : List Str → List D → Option D
  | f :: fs, d :: ds => if f = x then some d else fldAt x fs ds
  | _, _ => none
/-- a field, a property -/
def attR (P : Prg) (cl : Cl) (x : Str) (d : D) (s : Dr) : R D := match d with
  | .ins c ds => match P.cls[c]? with
    | some ci => (match fldAt x ci.flds ds with
      | some y => .ok y s
      | none => match ci.props.lookup x with
        | some f => (cl.call f [d] s).quiet
        | none => .no)
    | none => .no
  | _ => .no
/-- == and its kin; of instances by their own -/
def cmpR (P : Prg) (cl : Cl) (op : CmpOp) (x y : D) (s : Dr) : R D := match x with
  | .ins c _ => match P.cls[c]? with
    | some ci => (match op, ci.eqf, y.ty with
      | .Eq, some f, some _ => (cl.call f [x, y] s).bind fun r s => match r with | .bl b => .ok (.bl b) s | _ => .no
      | .NotEq, some f, some _ => (cl.call f [x, y] s).bind fun r s => match r with | .bl b => .ok (.bl (!b)) s | _ => .no
      | _, _, _ => .no)
    | none => .no
  | .lst [.ins c ds] => match op, y with
    | .NotEq, .lst [.ins c' ds'] => (match P.cls[c]? with
      | some ci => (match ci.eqf with
        | some f => (cl.call f [.ins c ds, .ins c' ds'] s).quiet.bind fun r s' => match r with | .bl true => if s' = s then .ok (.bl false) s else .no | _ => .no
        | none => .no)
      | none => .no)
    | _, _ => .no
  | _ => ofO ((cmpD op x y).map .bl) s
def Dr.get (s : Dr) (x : Str) : Option D := if x = "rest" then some (.int s.rest) else if x = "turn" then some (.int s.turn) else none
def Dr.put (s : Dr) (x : Str) (d : D) : Option Dr := match d with
  | .int i => if x = "rest" then some { s with rest := i } else if x = "turn" then some { s with turn := i } else none
  | _ => none
/-- where a parameter's argument comes from: a place among those handed, or among the defaults -/
def pickI (ps : List Str) (nd n : Nat) (ks : List Str) (i : Nat) : Option (Sum Nat Nat) :=
  if i < n then some (.inl i) else match ks.idxOf? (ps.getD i Str.empty) with
    | some j => some (.inl (n + j))
    | none => if ps.length - nd ≤ i then some (.inr (i - (ps.length - nd))) else none
def pick {α : Type} (dfl xs : List α) : Option (Sum Nat Nat) → Option α
  | some (.inl j) => xs[j]?
  | some (.inr j) => dfl[j]?
  | none => none
def pickL {α : Type} (dfl xs : List α) : List (Option (Sum Nat Nat)) → Option (List α)
  | [] => some []
  | o :: r => match pick dfl xs o, pickL dfl xs r with | some a, some l => some (a :: l) | _, _ => none
/-- arguments by place and by name, in the sequence of the parameters, defaults put in -/
def kwPutG {α : Type} (ps : List Str) (dfl : List α) (n : Nat) (ks : List Str) (xs : List α) : Option (List α) := pickL dfl xs ((List.range ps.length).map (pickI ps dfl.length n ks))
def kwPut (P : Prg) (f : Nat) (ks : List Str) (xs : List D) : Option (List D) := match P.fns[f]? with
  | some fi => kwPutG fi.ps fi.dfl (xs.length - ks.length) ks xs
  | none => none
mutual
/-- the worth of an expression -/
def ev (P : Prg) (cl : Cl) : C → En → Dr → R D
  | .var i, env, s => match env[i]? with | some (some d) => .ok d s | _ => .no
  | .non, _, s => .ok .non s
  | .bl b, _, s => .ok (.bl b) s
  | .int i, _, s => .ok (.int i) s
  | .str x, _, s => .ok (.str x) s
  | .gcon k, _, s => match P.gcs[k]? with | some (_, d) => .ok d s | none => .no
  | .bin op a b, env, s => (ev P cl a env s).bind fun x s => (ev P cl b env s).bind fun y s => ofO (opD op x y) s
  | .neg a, env, s => (ev P cl a env s).bind fun x s => match x with | .int i => .ok (.int (-i)) s | _ => .no
  | .not a, env, s => (ev P cl a env s).bind fun x s => match x.truth with | some b => .ok (.bl (!b)) s | none => .no
  | .and a b, env, s => (ev P cl a env s).bind fun x s => match x.truth with | some true => ev P cl b env s | some false => .ok x s | none => .no
  | .or a b, env, s => (ev P cl a env s).bind fun x s => match x.truth with | some true => .ok x s | some false => ev P cl b env s | none => .no
  | .ife t a b, env, s => (ev P cl t env s).bind fun x s => match x.truth with | some true => ev P cl a env s | some false => ev P cl b env s | none => .no
  | .cmp op a b, env, s => (ev P cl a env s).bind fun x s => (ev P cl b env s).bind fun y s => cmpR P cl op x y s
  | .isN a, env, s => (ev P cl a env s).bind fun x s => .ok (.bl x.isN) s
  | .notN a, env, s => (ev P cl a env s).bind fun x s => .ok (.bl (!x.isN)) s
  | .chn op op2 a b c, env, s => (ev P cl a env s).bind fun x s => (ev P cl b env s).bind fun y s => match cmpD op x y with
    | some true => (ev P cl c env s).bind fun z s => ofO ((cmpD op2 y z).map .bl) s
    | some false => .ok (.bl false) s
    | none => .no
  | .call f as, env, s => (evL P cl as env s).bind fun xs s => cl.call f xs s
  | .callK f ks as kas, env, s => (evL P cl as env s).bind fun xs s => (evL P cl kas env s).bind fun ys s => match kwPut P f ks (xs ++ ys) with | some zs => cl.call f zs s | none => .no
  | .make c as, env, s => (evL P cl as env s).bind fun xs s => cl.make c xs s
  | .makeK c ks as kas, env, s => (evL P cl as env s).bind fun xs s => (evL P cl kas env s).bind fun ys s => match P.cls[c]? with
    | some ci => (match kwPut P ci.init ks (.non :: xs ++ ys) with | some (_ :: zs) => cl.make c zs s | _ => .no)
    | none => .no
  | .blt b a, env, s => (ev P cl a env s).bind fun x s => ofO (bltD b x) s
  | .blt2 b a a2, env, s => (ev P cl a env s).bind fun x s => (ev P cl a2 env s).bind fun y s => ofO (blt2D b x y) s
  | .isi a ts, env, s => (ev P cl a env s).bind fun x s => match x.ty with | some t => ofO ((isiL P t ts).map .bl) s | none => .no
  | .att a x, env, s => (ev P cl a env s).bind fun d s => attR P cl x d s
  | .idx a b, env, s => (ev P cl a env s).bind fun x s => (ev P cl b env s).bind fun y s => ofO (idxD x y) s
  | .sli a lo hi, env, s => (ev P cl a env s).bind fun x s => (if isNop lo then .ok none s else (ev P cl lo env s).bind fun l s => match l with | .int i => .ok (some i) s | _ => .no).bind fun l s =>
      (if isNop hi then .ok none s else (ev P cl hi env s).bind fun h s => match h with | .int i => .ok (some i) s | _ => .no).bind fun h s => ofO (sliD x l h) s
  | .rev a, env, s => (ev P cl a env s).bind fun x s => match x with | .lst ds => .ok (.lst ds.reverse) s | _ => .no
  | .tup as, env, s => (evL P cl as env s).lim.bind fun xs s => .ok (.tup xs) s
  | .lst as, env, s => (evL P cl as env s).lim.bind fun xs s => .ok (.lst xs) s
  | .dic ks as, env, s => (evL P cl as env s).bind fun xs s => if ks.length = xs.length ∧ ks.length ≤ 15 ∧ ks.Nodup then .ok (.dct ks xs) s else .no
  | .comp own e tg it cond, env, s => ((ev P cl it env s).bind fun x s => ofO (items x) s).bind fun xs s =>
      ((mapR (fun x s => match tg.put x (wipeE env (own.map (·.2))) with
        | some env => (if isNop cond then .ok true s else (ev P cl cond env s).bind fun x s => ofO x.truth s).bind fun b s =>
          if b then (ev P cl e env s).bind fun y s => .ok [y] s else .ok [] s
        | none => .no) xs s).quiet.lim).bind fun ys s => .ok (.lst ys) s
  | .comp2 own e tg it tg2 it2 cond, env, s => ((ev P cl it env s).bind fun x s => ofO (items x) s).bind fun xs s =>
      ((mapR (fun x s => match tg.put x (wipeE env (own.map (·.2))) with
        | some env => ((ev P cl it2 env s).bind fun x s => ofO (items x) s).bind fun xs2 s => mapR (fun x s => match tg2.put x (wipeE env tg2.ixs) with
          | some env => (if isNop cond then .ok true s else (ev P cl cond env s).bind fun x s => ofO x.truth s).bind fun b s =>
            if b then (ev P cl e env s).bind fun y s => .ok [y] s else .ok [] s
          | none => .no) xs2 s
        | none => .no) xs s).quiet.lim).bind fun ys s => .ok (.lst ys) s
  | .rng a b, env, s => (ev P cl a env s).bind fun x s => (ev P cl b env s).bind fun y s => match x, y with
    | .int i, .int j => if -1000000 ≤ i ∧ i ≤ 1000000 ∧ -1000000 ≤ j ∧ j ≤ 1000000 then .ok (.lst ((List.range (j - i).toNat).map fun (k : Nat) => .int (i + k))) s else .no
    | _, _ => .no
  | .enm a, env, s => (ev P cl a env s).bind fun x s => match x with
    | .lst ds => .ok (.lst (ds.zipIdx.map fun p => .tup [.int (p.2 : Nat), p.1])) s
    | _ => .no
  | .caught e, env, s => match ev P cl e env s with
    | .ok _ s => .ok .non s
    | .exc c ds s => .ok (.exc c ds) s
    | .no => .no
  | .dgi a x, env, s => (ev P cl a env s).bind fun d s => match d with | .drw => ofO (s.get x) s | _ => .no
  | .dne a, env, s => (ev P cl a env s).bind fun d s => match d with | .drw => .ok (.bl (!s.large.isEmpty)) s | _ => .no
  | .dpop a, env, s => (ev P cl a env s).bind fun d s => match d with | .drw => (match s.large with | i :: l => .ok (.int i) { s with large := l } | [] => .no) | _ => .no
  | .nop, _, _ => .no
  | .nil, _, _ => .no
  | .cons _ _, _, _ => .no
/-- a list of expressions -/
def evL (P : Prg) (cl : Cl) : C → En → Dr → R (List D)
  | .nil, _, s => .ok [] s
  | .cons a r, env, s => (ev P cl a env s).bind fun x s => (evL P cl r env s).bind fun xs s => .ok (x :: xs) s
  | _, _, _ => .no
end
/-- the truth of an expression -/
def evB (P : Prg) (cl : Cl) (c : C) (env : En) (s : Dr) : R Bool := (ev P cl c env s).bind fun x s => ofO x.truth s
/-- what is walked -/
def evI (P : Prg) (cl : Cl) (c : C) (env : En) (s : Dr) : R (List D) := (ev P cl c env s).bind fun x s => ofO (items x) s
end Ah

/-! ## AhS1 -/
set_option Elab.async false
set_option linter.all false
set_option maxRecDepth 100000
set_option maxHeartbeats 2000000
/-! Ah: the operations by values. -/
namespace Ah
open PySem PySem.Spec PyProof.Rows L2

/-- the widest readings -/
def rW (X : Cx) (f : Value → Value → Sem Value) : R2 := fun x y H Q => ∀ (pins : List (Addr × Obj)) (s : Shared) (σ : L2.St) (v u : Value), Inv X pins σ H s → RelV x v → RelV y u → wpAny (model X.prog X.w) X.A (f v u) (EP X pins σ Q) X.xe s
theorem opr_W {X : Cx} {f : Value → Value → Sem Value} : OpR X f (rW X f) := fun pins s σ H x y v u Q I r1 r2 h => h pins s σ v u I r1 r2
theorem rW_of {X : Cx} {f : Value → Value → Sem Value} {r : R2} (h : OpR X f r) {x y : V} {H : Hp} {Q : VK} (q : r x y H Q) : rW X f x y H Q := fun pins s σ v u I r1 r2 => h pins s σ H x y v u Q I r1 r2 q
def rIW (X : Cx) : R2 := fun x y H Q => ∀ (value slice : Expr) (pins : List (Addr × Obj)) (s : Shared) (σ : L2.St) (v u : Value), Inv X pins σ H s → RelV x v → RelV y u →
  subscripted slice false v u = operate [v, u] (getItem v u) → wpAny (model X.prog X.w) X.A (subscriptTail value slice v u) (EP X pins σ Q) X.xe s
theorem ixr_W {X : Cx} : IxR X (rIW X) := fun value slice pins s σ H x y v u Q I r1 r2 h e => h value slice pins s σ v u I r1 r2 e
theorem rIW_of {X : Cx} {r : R2} (h : IxR X r) {x y : V} {H : Hp} {Q : VK} (q : r x y H Q) : rIW X x y H Q := fun value slice pins s σ v u I r1 r2 e => h value slice pins s σ H x y v u Q I r1 r2 q e
def rCW (X : Cx) (f : Value) : List V → Hp → VK → Prop := fun xs H Q => ∀ (pins : List (Addr × Obj)) (s : Shared) (σ : L2.St) (us : List Value), Inv X pins σ H s → Vals xs us → wpAny (model X.prog X.w) X.A (call f us) (EP X pins σ Q) X.xe s
theorem callr_W {X : Cx} {f : Value} : CallR X f (rCW X f) := fun pins s σ H xs us Q I r h => h pins s σ us I r
theorem rCW_of {X : Cx} {f : Value} {r : List V → Hp → VK → Prop} (h : CallR X f r) {xs : List V} {H : Hp} {Q : VK} (q : r xs H Q) : rCW X f xs H Q := fun pins s σ us I rr => h pins s σ H xs us Q I rr q

section
variable {X : Cx} {G : G} {E : XK} {B : Bar} {s : Dr} {H : Hp} {Q : VK} {x y : V} {a b d : D}
theorem lim_line : LIM < sizeLine := by rw [sizeLine_eq]; decide
theorem le_line {n : Nat} (h : n ≤ LIM) : n ≤ sizeLine := Nat.le_trans h (Nat.le_of_lt lim_line)
theorem fin.here {v : V} (q : fin (relD G B) G E H Q (.ok d s)) (g : Good G s H) (h : Den G B H d v) : Q v H := q v H Ext.refl g h
theorem fin.lst {p : Addr} {ds : List D} {vs : List V} (q : fin (relD G B) G E H Q (.ok (.lst ds) s)) (g : Good G s H) (bk : BOk G B H) (h : DenL G B H ds vs) (z : ds.length ≤ LIM) (hp : H p = none) : Q (.ref p) (L2.upd H p (.lst vs)) :=
  q _ _ (Ext.upd hp) (g.upd hp) (.lst (bk.none hp) upd_same (h.ext (Ext.upd hp) g.dr bk) z)
theorem fin.tup {p : Addr} {ds : List D} {vs : List V} (q : fin (relD G B) G E H Q (.ok (.tup ds) s)) (g : Good G s H) (bk : BOk G B H) (h : DenL G B H ds vs) (z : ds.length ≤ LIM) (hp : H p = none) : Q (.ref p) (L2.upd H p (.tup vs)) :=
  q _ _ (Ext.upd hp) (g.upd hp) (.tup (.of upd_same) (h.ext (Ext.upd hp) g.dr bk) z)

theorem sOk_app {s t : Str} (h1 : sOk s = true) (h2 : sOk t = true) (z : s.length + t.length ≤ LIM) : sOk (s ++ t) = true := by
  unfold sOk PyData.strOk at *
  simp only [Bool.and_eq_true, decide_eq_true_eq] at *
  refine ⟨?_, ?_⟩
  · show (s.cps ++ t.cps).all _ = true
    rw [Array.all_append, h1.1, h2.1]; rfl
  · show (s.cps ++ t.cps).size ≤ LIM
    rw [Array.size_append]
    exact z
theorem sOk_len {s : Str} (h : sOk s = true) : s.length ≤ LIM := by
  unfold sOk at h
  simp only [Bool.and_eq_true, decide_eq_true_eq] at h
  exact h.2
theorem sOk_str {s : Str} (h : sOk s = true) : PyData.strOk s = true := by
  unfold sOk at h
  simp only [Bool.and_eq_true, decide_eq_true_eq] at h
  exact h.1

theorem op_ok {op : Operator} (hK : G.K = X.K) (h : opD op a b = some d) (ha : Den G B H a x) (hb : Den G B H b y) (bk : BOk G B H) (g : Good G s H) (q : fin (relD G B) G E H Q (.ok d s)) : rW X (binaryOp op) x y H Q := by
  unfold opD at h
  split at h
  · cases h; cases ha; cases hb
    exact rW_of op_add ⟨_, _, rfl, rfl, q.here g (.int _)⟩
  · split at h
    · cases h; cases ha with | str h1 => cases hb with | str h2 => exact rW_of op_add_str ⟨_, _, rfl, rfl, le_line (by assumption), q.here g (.str (sOk_app h1 h2 (by assumption)))⟩
    · cases h
  · split at h
    · rename_i z
      cases h
      cases ha with
      | lst n1 e1 l1 z1 =>
        cases hb with
        | lst n2 e2 l2 z2 =>
          have w1 := l1.length
          have w2 := l2.length
          exact rW_of op_cat ⟨_, _, _, _, rfl, rfl, e1, e2, by rw [← w1, ← w2]; exact le_line z, fun p hp => q.lst g bk (l1.append l2) (by rw [List.length_append]; exact z) hp⟩
    · cases h
  · split at h
    · rename_i z
      cases h
      cases ha with
      | tup e1 l1 z1 =>
        cases hb with
        | tup e2 l2 z2 =>
          have w1 := l1.length
          have w2 := l2.length
          refine rW_of op_catA ⟨_, _, _, _, rfl, rfl, hK ▸ e1, hK ▸ e2, by rw [← w1, ← w2]; exact le_line z, fun c => ?_, fun c1 c2 => ?_, fun c1 c2 p hp => q.tup g bk (l1.append l2) (by rw [List.length_append]; exact z) hp⟩
          · subst c
            cases l1
            exact q.here g (.tup e2 l2 (by simpa using z))
          · subst c2
            cases l2
            exact q.here g (.tup e1 (by simpa using l1) (by simpa using z))
    · cases h
  · cases h; cases ha; cases hb
    exact rW_of op_sub ⟨_, _, rfl, rfl, q.here g (.int _)⟩
  · split at h
    · rename_i z
      cases h
      cases ha with
      | lst n1 e1 l1 z1 =>
        cases hb
        have w1 := l1.length
        refine rW_of op_rep ⟨_, _, _, rfl, rfl, e1, by omega, by omega, by rw [← w1]; exact le_line z.2.2, fun p hp => q.lst g bk ?_ ?_ hp⟩
        · clear hp q z e1
          generalize Int.toNat _ = k
          induction k with
          | zero => exact .nil
          | succ k ih => simp only [List.replicate_succ, List.flatten_cons]; exact l1.append ih
        · rw [List.length_flatten, List.map_replicate, List.sum_replicate_nat, Nat.mul_comm]; exact z.2.2
    · cases h
  · split at h
    · rename_i z
      cases h; cases ha; cases hb
      exact rW_of op_mul ⟨_, _, rfl, rfl, z, q.here g (.int _)⟩
    · cases h
  · split at h
    · rename_i z
      cases h; cases ha; cases hb
      exact rW_of op_pow ⟨_, _, rfl, rfl, z, q.here g (.int _)⟩
    · cases h
  · split at h
    · rename_i z
      cases h; cases ha; cases hb
      exact rW_of op_mod ⟨_, _, rfl, rfl, z, q.here g (.int _)⟩
    · cases h
  · split at h
    · rename_i z
      cases h; cases ha; cases hb
      exact rW_of op_fdiv ⟨_, _, rfl, rfl, z, q.here g (.int _)⟩
    · cases h
  · cases h

/-! ### data that == takes -/
mutual
theorem den_dp (hK : G.K = X.K) : ∀ (d : D) {v : V} {p : PyData}, Den G B H d v → d.toPy = some p → Dp X.K H v p
  | .non, _, _, .non, e => by cases e; exact .non
  | .bl b, _, _, .bl _, e => by cases e; exact .bl b
  | .int i, _, _, .int _, e => by cases e; exact .int i
  | .str t, _, _, .str _, e => by cases e; exact .str t
  | .tup ds, _, _, .tup q l z, e => by
    unfold D.toPy at e
    split at e
    · rename_i w hw
      cases e
      exact .tup (hK ▸ q) (den_dpL hK ds l hw)
    · cases e
  | .lst ds, _, _, .lst n q l z, e => by
    unfold D.toPy at e
    split at e
    · rename_i w hw
      cases e
      exact .lst (.of q) (den_dpL hK ds l hw)
    · cases e
theorem den_dpL (hK : G.K = X.K) : ∀ (ds : List D) {vs : List V} {ps : List PyData}, DenL G B H ds vs → D.toPyL ds = some ps → DpAll X.K H vs ps
  | [], _, _, .nil, e => by cases e; exact .nil
  | d :: ds, _, _, .cons h t, e => by
    unfold D.toPyL at e
    split at e
    · rename_i w1 w2 h1 h2
      cases e
      exact .cons (den_dp hK d h h1) (den_dpL hK ds t h2)
    · cases e
end
mutual
theorem den_can : ∀ (d : D) {v : V} {p : PyData}, Den G B H d v → d.toPy = some p → p.canLay0 = true
  | .non, _, _, .non, e => by cases e; rfl
  | .bl b, _, _, .bl _, e => by cases e; rfl
  | .int i, _, _, .int _, e => by cases e; rfl
  | .str t, _, _, .str h, e => by cases e; exact sOk_str h
  | .tup ds, _, _, .tup q l z, e => by
    unfold D.toPy at e
    split at e
    · rename_i w hw
      cases e
      exact den_canL ds l hw
    · cases e
  | .lst ds, _, _, .lst n q l z, e => by
    unfold D.toPy at e
    split at e
    · rename_i w hw
      cases e
      exact den_canL ds l hw
    · cases e
theorem den_canL : ∀ (ds : List D) {vs : List V} {ps : List PyData}, DenL G B H ds vs → D.toPyL ds = some ps → PyData.canLayAll0 ps = true
  | [], _, _, .nil, e => by cases e; rfl
  | d :: ds, _, _, .cons h t, e => by
    unfold D.toPyL at e
    split at e
    · rename_i w1 w2 h1 h2
      cases e
      show (PyData.canLay0 w1 && PyData.canLayAll0 w2) = true
      rw [den_can d h h1, den_canL ds t h2]; rfl
    · cases e
end
theorem pyS_dp (hK : G.K = X.K) {p : PyData} (h : Den G B H a x) (e : a.pyS = some p) : Dp X.K H x p ∧ SeqAt.shaped p = true := by
  unfold D.pyS at e
  split at e
  · rename_i w hw
    split at e
    · rename_i hd
      cases e
      refine ⟨den_dp hK a h hw, ?_⟩
      unfold SeqAt.shaped
      rw [den_can a h hw]
      simp only [Bool.true_and, decide_eq_true_eq]
      omega
    · cases e
  · cases e
theorem flat_v {v : V} (h : Den G B H a x) (e : a.flat = some v) : x = v ∧ flatV x = true := by
  cases h <;> simp [D.flat] at e
  · subst e; exact ⟨rfl, rfl⟩
  · subst e; exact ⟨rfl, rfl⟩
  · subst e; exact ⟨rfl, rfl⟩
  · rename_i s h
    exact ⟨e.2, rfl⟩
theorem flat_vs : ∀ {ds : List D} {vs us : List V}, DenL G B H ds vs → ds.mapM D.flat = some us → vs = us ∧ vs.all flatV = true
  | [], _, _, .nil, e => by cases e; exact ⟨rfl, rfl⟩
  | d :: ds, _, us, .cons h t, e => by
    rw [List.mapM_cons] at e
    cases e1 : d.flat with
    | none => rw [e1] at e; cases e
    | some w =>
      rw [e1] at e
      cases e2 : ds.mapM D.flat with
      | none => rw [e2] at e; cases e
      | some ws =>
        rw [e2] at e
        cases e
        obtain ⟨rfl, f1⟩ := flat_v h e1
        obtain ⟨rfl, f2⟩ := flat_vs t e2
        exact ⟨rfl, by rw [List.all_cons, f1, f2]; rfl⟩
theorem eq_ok (hK : G.K = X.K) {k : Bool} (hu : X.A.units + 64 < cLine) (h : pyEq a b = some k) (ha : Den G B H a x) (hb : Den G B H b y) (g : Good G s H) (q : fin (relD G B) G E H Q (.ok (.bl k) s)) : rW X (compareOp .Eq) x y H Q := by
  unfold pyEq at h
  split at h
  · rename_i p p' h1 h2
    cases h
    obtain ⟨d1, s1⟩ := pyS_dp hK ha h1
    obtain ⟨d2, s2⟩ := pyS_dp hK hb h2
    exact rW_of (op_eqD hu) ⟨_, _, d1, d2, s1, s2, q.here g (.bl _)⟩
  · cases h
theorem ne_ok (hK : G.K = X.K) {k : Bool} (hu : X.A.units + 64 < cLine) (h : pyEq a b = some k) (ha : Den G B H a x) (hb : Den G B H b y) (g : Good G s H) (q : fin (relD G B) G E H Q (.ok (.bl (!k)) s)) : rW X (compareOp .NotEq) x y H Q := by
  unfold pyEq at h
  split at h
  · rename_i p p' h1 h2
    cases h
    obtain ⟨d1, s1⟩ := pyS_dp hK ha h1
    obtain ⟨d2, s2⟩ := pyS_dp hK hb h2
    exact rW_of (op_neD hu) ⟨_, _, d1, d2, s1, s2, q.here g (.bl _)⟩
  · cases h
end
end Ah

/-! ## AhS2 -/
set_option Elab.async false
set_option linter.all false
set_option maxRecDepth 100000
set_option maxHeartbeats 2000000
/-! Ah: comparisons, items, slices, built-ins by values. -/
namespace Ah
open PySem PySem.Spec PyProof.Rows L2
section
variable {X : Cx} {G : G} {E : XK} {B : Bar} {s : Dr} {H : Hp} {Q : VK} {x y : V} {a b d : D}
theorem toPy_lst {ds : List D} {q : PyData} (h : (D.lst ds).toPy = some q) : ∃ qs, q = .list qs := by
  unfold D.toPy at h
  split at h
  · cases h; exact ⟨_, rfl⟩
  · cases h
theorem in_ok (hK : G.K = X.K) {k : Bool} (hu : X.A.units + 65 < cLine) (h : pyIn a b = some k) (ha : Den G B H a x) (hb : Den G B H b y) (g : Good G s H) (q : fin (relD G B) G E H Q (.ok (.bl k) s)) : rW X (compareOp .In) x y H Q := by
  unfold pyIn at h
  split at h
  · cases h; cases ha; cases hb
    exact rW_of op_in_str ⟨_, _, rfl, rfl, q.here g (.bl _)⟩
  · split at h
    · rename_i p qs h1 h2
      cases h
      obtain ⟨d1, s1⟩ := pyS_dp hK ha h1
      obtain ⟨d2, s2⟩ := pyS_dp hK hb h2
      exact rW_of (op_inD hu) ⟨_, _, d1, d2, s1, s2, q.here g (.bl _)⟩
    · cases h
  · split at h
    · rename_i w ws h1 h2
      cases h
      obtain ⟨rfl, f1⟩ := flat_v ha h1
      cases hb with
      | tup e l z =>
        obtain ⟨rfl, f2⟩ := flat_vs l h2
        exact rW_of op_in_seq ⟨_, _, rfl, .inr (hK ▸ e), f1, f2, q.here g (.bl _)⟩
    · cases h
  · cases h
theorem notin_ok (hK : G.K = X.K) {k : Bool} (hu : X.A.units + 65 < cLine) (h : pyIn a b = some k) (ha : Den G B H a x) (hb : Den G B H b y) (g : Good G s H) (q : fin (relD G B) G E H Q (.ok (.bl (!k)) s)) : rW X (compareOp .NotIn) x y H Q := by
  unfold pyIn at h
  split at h
  · cases h; cases ha; cases hb
    exact rW_of op_notin_str ⟨_, _, rfl, rfl, q.here g (.bl _)⟩
  · split at h
    · rename_i p qs h1 h2
      cases h
      obtain ⟨d1, s1⟩ := pyS_dp hK ha h1
      obtain ⟨d2, s2⟩ := pyS_dp hK hb h2
      exact rW_of (op_notInD hu) ⟨_, _, d1, d2, s1, s2, q.here g (.bl _)⟩
    · cases h
  · split at h
    · rename_i w ws h1 h2
      cases h
      obtain ⟨rfl, f1⟩ := flat_v ha h1
      cases hb with
      | tup e l z =>
        obtain ⟨rfl, f2⟩ := flat_vs l h2
        exact rW_of op_notIn_seq ⟨_, _, rfl, .inr (hK ▸ e), f1, f2, q.here g (.bl _)⟩
    · cases h
  · cases h
theorem cmp_ok (hK : G.K = X.K) {op : CmpOp} {k : Bool} (hu : X.A.units + 65 < cLine) (h : cmpD op a b = some k) (ha : Den G B H a x) (hb : Den G B H b y) (g : Good G s H) (q : fin (relD G B) G E H Q (.ok (.bl k) s)) : rW X (compareOp op) x y H Q := by
  cases op <;> simp only [cmpD] at h
  case Eq => exact eq_ok hK (by omega) h ha hb g q
  case NotEq =>
    obtain ⟨k', e, rfl⟩ := Option.map_eq_some_iff.mp h
    exact ne_ok hK (by omega) e ha hb g q
  case In => exact in_ok hK hu h ha hb g q
  case NotIn =>
    obtain ⟨k', e, rfl⟩ := Option.map_eq_some_iff.mp h
    exact notin_ok hK hu e ha hb g q
  case Lt => split at h <;> cases h; cases ha; cases hb; exact rW_of op_lt ⟨_, _, rfl, rfl, q.here g (.bl _)⟩
  case LtE => split at h <;> cases h; cases ha; cases hb; exact rW_of op_le ⟨_, _, rfl, rfl, q.here g (.bl _)⟩
  case Gt => split at h <;> cases h; cases ha; cases hb; exact rW_of op_gt ⟨_, _, rfl, rfl, q.here g (.bl _)⟩
  case GtE => split at h <;> cases h; cases ha; cases hb; exact rW_of op_ge ⟨_, _, rfl, rfl, q.here g (.bl _)⟩
  all_goals cases h

/-! ### items -/
theorem DenL.atI {ds : List D} {vs : List V} {i : Int} (l : DenL G B H ds vs) (h : L2.atI ds i = some d) : ∃ v, L2.atI vs i = some v ∧ Den G B H d v := by
  unfold L2.atI at *
  rw [← l.length]
  obtain ⟨j, e1, e2⟩ := Option.bind_eq_some_iff.mp h
  obtain ⟨v, h1, h2⟩ := l.get e2
  exact ⟨v, by rw [e1]; exact h1, h2⟩
theorem sOk_sign {s : Str} (h : sOk s = true) {c : Nat} (hc : c ∈ s.cps.toList) : sOk ⟨#[c]⟩ = true := by
  have h' := sOk_str h
  unfold PyData.strOk at h'
  rw [Array.all_eq_true'] at h'
  have z := h' c (by simpa using hc)
  unfold sOk PyData.strOk
  simp only [Bool.and_eq_true, decide_eq_true_eq]
  refine ⟨?_, by show 1 ≤ LIM; decide⟩
  rw [Array.all_eq_true']
  intro x hx
  simp at hx
  subst hx
  exact z
theorem idx_ok (hK : G.K = X.K) (h : idxD a b = some d) (ha : Den G B H a x) (hb : Den G B H b y) (g : Good G s H) (q : fin (relD G B) G E H Q (.ok d s)) : rIW X x y H Q := by
  unfold idxD at h
  split at h
  · cases ha with
    | lst n e l z =>
      cases hb
      obtain ⟨v, h1, h2⟩ := l.atI h
      exact rIW_of ix_list ⟨_, _, _, _, rfl, rfl, .of e, h1, q.here g h2⟩
  · cases ha with
    | tup e l z =>
      cases hb
      obtain ⟨v, h1, h2⟩ := l.atI h
      exact rIW_of ix_tup ⟨_, _, _, _, rfl, rfl, hK ▸ e, h1, q.here g h2⟩
  · obtain ⟨c, e, rfl⟩ := Option.map_eq_some_iff.mp h
    cases ha with
    | str hs =>
      cases hb
      refine rIW_of ix_str ⟨_, _, _, rfl, rfl, le_line (sOk_len hs), e, q.here g (.str (sOk_sign hs ?_))⟩
      unfold L2.atI at e
      obtain ⟨j, _, e2⟩ := Option.bind_eq_some_iff.mp e
      exact List.mem_of_getElem? e2
  · cases h

/-! ### slices -/
def rSW (X : Cx) : V → Option Int → Option Int → Hp → VK → Prop := fun x lo hi H Q => ∀ (pins : List (Addr × Obj)) (s : Shared) (σ : L2.St) (v vl vu : Value) (sl : Addr), Inv X pins σ H s → RelV x v → s.heap.IsSliceOf sl vl vu .none → IsPart vl lo → IsPart vu hi →
    ∃ T id, typeLookup (.type T) "__getitem__" = pure (some (.builtin id)) ∧ s.TypeIs v T ∧ wpAny (model X.prog X.w) X.A (getItem v (.ref sl)) (EP X pins σ Q) X.xe s
theorem slr_W : SlR X (rSW X) := fun pins s σ H x v vl vu lo hi sl Q I r i p1 p2 h => h pins s σ v vl vu sl I r i p1 p2
theorem rSW_of {r : V → Option Int → Option Int → Hp → VK → Prop} (h : SlR X r) {lo hi : Option Int} (q : r x lo hi H Q) : rSW X x lo hi H Q := fun pins s σ v vl vu sl I rr i p1 p2 => h pins s σ H x v vl vu lo hi sl Q I rr i p1 p2 q
theorem cutD_len {α : Type} (xs : List α) (lo hi : Option Int) : (cutD xs lo hi).length ≤ xs.length := by
  unfold cutD
  rw [List.length_take, List.length_drop]
  omega
theorem DenL.cut {ds : List D} {vs : List V} (l : DenL G B H ds vs) (lo hi : Option Int) : DenL G B H (cutD ds lo hi) (cutV vs lo hi) := by
  unfold cutD cutV
  rw [← l.length]
  exact (l.drop _).take _
theorem sli_ok (hK : G.K = X.K) {lo hi : Option Int} (h : sliD a lo hi = some d) (ha : Den G B H a x) (bk : BOk G B H) (g : Good G s H) (q : fin (relD G B) G E H Q (.ok d s)) : rSW X x lo hi H Q := by
  unfold sliD at h
  split at h
  · cases h
    cases ha with
    | lst n e l z => exact rSW_of sl_list ⟨_, _, rfl, .of e, fun p hp => q.lst g bk (l.cut lo hi) (Nat.le_trans (cutD_len _ _ _) z) hp⟩
  · cases h
    cases ha with
    | tup e l z =>
      refine rSW_of sl_tupA ⟨_, _, rfl, hK ▸ e, fun w => q.here g ?_, fun _ p hp => q.tup g bk (l.cut lo hi) (Nat.le_trans (cutD_len _ _ _) z) hp⟩
      rename_i ds _ vs
      have hl := l.length
      have e1 : cutD ds lo hi = ds := by
        unfold cutD
        rw [hl, w.1, w.2, List.drop_zero, Nat.sub_zero, ← hl, List.take_length]
      rw [e1]
      exact .tup e l z
  · cases h

/-! ### built-ins -/
theorem mapM_bl : ∀ {ds : List D} {vs : List V} {bs : List Bool}, DenL G B H ds vs → ds.mapM (fun d => match d with | .bl b => some b | _ => none) = some bs → vs = bs.map V.bl
  | [], _, _, .nil, e => by cases e; rfl
  | d :: ds, _, bs, .cons h t, e => by
    rw [List.mapM_cons] at e
    cases h <;> try (cases e; done)
    rename_i k
    cases e2 : ds.mapM (fun d => match d with | .bl b => some b | _ => none) with
    | none => rw [e2] at e; cases e
    | some ws =>
      rw [e2] at e
      cases e
      rw [mapM_bl t e2]; rfl
theorem mapM_str : ∀ {ds : List D} {vs : List V} {ss : List Str}, DenL G B H ds vs → ds.mapM (fun d => match d with | .str s => some s | _ => none) = some ss → vs = ss.map V.str
  | [], _, _, .nil, e => by cases e; rfl
  | d :: ds, _, ss, .cons h t, e => by
    rw [List.mapM_cons] at e
    cases h <;> try (cases e; done)
    rename_i k
    cases e2 : ds.mapM (fun d => match d with | .str s => some s | _ => none) with
    | none => rw [e2] at e; cases e
    | some ws =>
      rw [e2] at e
      cases e
      rw [mapM_str t e2]; rfl
theorem len_ok (hK : G.K = X.K) (h : bltD .len a = some d) (ha : Den G B H a x) (g : Good G s H) (q : fin (relD G B) G E H Q (.ok d s)) : rCW X (.builtin "len") [x] H Q := by
  simp only [bltD] at h
  cases ha <;> simp only [bltD] at h <;> cases h
  · exact rCW_of call_len_str ⟨_, rfl, le_line (sOk_len (by assumption)), q.here g (.int _)⟩
  · rename_i e l z
    refine rCW_of call_len_seq ⟨_, _, rfl, .inr (hK ▸ e), ?_⟩
    rw [← l.length]; exact q.here g (.int _)
  · rename_i n e l z
    refine rCW_of call_len_seq ⟨_, _, rfl, .inl (.of e), ?_⟩
    rw [← l.length]; exact q.here g (.int _)
  · rename_i e
    refine rCW_of call_len_seq ⟨_, _, rfl, .inl (hK ▸ e.sq), ?_⟩
    rw [List.length_map]; exact q.here g (.int _)
theorem tuple_ok (hK : G.K = X.K) (h : bltD .tuple a = some d) (ha : Den G B H a x) (bk : BOk G B H) (g : Good G s H) (q : fin (relD G B) G E H Q (.ok d s)) : rCW X (.type "tuple") [x] H Q := by
  simp only [bltD] at h
  cases ha <;> simp only [bltD] at h <;> cases h
  · rename_i e l z
    exact rCW_of call_tuple_of ⟨_, _, rfl, .inr ⟨hK ▸ e, q.here g (.tup e l z)⟩⟩
  · rename_i n e l z
    exact rCW_of call_tuple_of ⟨_, _, rfl, .inl ⟨.of e, fun p hp => q.tup g bk l z hp⟩⟩
theorem all_ok (hK : G.K = X.K) (hc : X.calm = true) (h : bltD .all a = some d) (ha : Den G B H a x) (g : Good G s H) (q : fin (relD G B) G E H Q (.ok d s)) : rCW X (.builtin "all") [x] H Q := by
  cases ha <;> simp only [bltD] at h <;> try (cases h; done)
  rename_i n e l z
  split at h
  · rename_i bs hb
    cases h
    have w := mapM_bl l hb
    subst w
    exact rCW_of (cr_all hc) ⟨_, _, rfl, .of e, q.here g (.bl _)⟩
  · cases h
theorem min_ok (hc : X.calm = true) {b2 : D} {y : V} (h : blt2D .minI a b2 = some d) (ha : Den G B H a x) (hb : Den G B H b2 y) (g : Good G s H) (q : fin (relD G B) G E H Q (.ok d s)) : rCW X (.builtin "min") [x, y] H Q := by
  cases ha <;> cases hb <;> simp only [blt2D] at h <;> cases h
  exact rCW_of (call_min2 hc) ⟨_, _, rfl, q.here g (.int _)⟩
theorem max_ok (hc : X.calm = true) {b2 : D} {y : V} (h : blt2D .maxI a b2 = some d) (ha : Den G B H a x) (hb : Den G B H b2 y) (g : Good G s H) (q : fin (relD G B) G E H Q (.ok d s)) : rCW X (.builtin "max") [x, y] H Q := by
  cases ha <;> cases hb <;> simp only [blt2D] at h <;> cases h
  exact rCW_of (call_max2 hc) ⟨_, _, rfl, q.here g (.int _)⟩

/-! ### truth -/
theorem tru_v (hK : G.K = X.K) {k : Bool} (h : a.truth = some k) (ha : Den G B H a x) : TruV X.K x H k := by
  cases ha <;> simp only [D.truth] at h <;> cases h
  · rfl
  · rfl
  · rfl
  · exact ⟨le_line (sOk_len (by assumption)), rfl⟩
  · rename_i e l z
    refine .inr (.inl ⟨_, hK ▸ e, ?_⟩)
    cases l <;> rfl
  · rename_i n e l z
    refine .inl ⟨_, .of e, ?_⟩
    cases l <;> rfl
  · rename_i n r e l z
    subst e
    refine .inr (.inr ⟨_, r, ?_⟩)
    cases ‹List (Key × V)› <;> rfl
end
end Ah

/-! ## AhS3 -/
set_option Elab.async false
set_option linter.all false
set_option maxRecDepth 100000
set_option maxHeartbeats 2000000
/-! Ah: expressions by rules. -/
namespace Ah
open PySem PySem.Spec PyProof.Rows L2

def visB (sc : Scope) (x : Str) : Bool := match sc.names.lookup x with
  | some .local => true | some .cell => true | some .free => true | _ => false
theorem vis_of {sc : Scope} {x : Str} (h : visB sc x = true) : Vis sc x := by
  unfold visB at h
  split at h
  · exact .inl (by assumption)
  · exact .inr (.inl (by assumption))
  · exact .inr (.inr (by assumption))
  · cases h
def glB (sc : Scope) (x : Str) : Bool := match sc.names.lookup x with | some .globalImplicit => true | _ => false
theorem gl_of {X : Cx} {x : Str} (h : glB X.env.scope x = true) : Gl X x := by
  unfold glB at h
  split at h
  · assumption
  · cases h
def nmOk (x : Str) : Bool := !(x == ("__debug__" : Str)) && !(x == ("__classdict__" : Str)) && !(x == ("__name__" : Str)) && !(x == ("super" : Str))
theorem nmOk_1 {x : Str} (h : nmOk x = true) : (x == ("__debug__" : Str)) = false := by
  unfold nmOk at h
  simp only [Bool.and_eq_true, Bool.not_eq_true'] at h
  exact h.1.1.1
theorem nmOk_2 {x : Str} (h : nmOk x = true) : (x == ("__classdict__" : Str)) = false := by
  unfold nmOk at h
  simp only [Bool.and_eq_true, Bool.not_eq_true'] at h
  exact h.1.1.2
theorem nmOk_3 {x : Str} (h : nmOk x = true) : x ≠ "__name__" := by
  unfold nmOk at h
  simp only [Bool.and_eq_true, Bool.not_eq_true', beq_eq_false_iff_ne] at h
  exact h.1.2

section
variable {X : Cx} {G : G} {E : XK} {P : Prg} {cl : Cl} {pos : Pos} {e ea eb ec : Expr} {a b c : C}
abbrev PEv (X : Cx) (G : Ah.G) (E : XK) (P : Prg) (cl : Cl) (c : C) (e : Expr) : Prop := PE X e (tR G E (ev P cl c))
abbrev PTv (X : Cx) (G : Ah.G) (E : XK) (P : Prg) (cl : Cl) (c : C) (e : Expr) : Prop := PT X e (tRB G E (evB P cl c))
abbrev PWv (X : Cx) (G : Ah.G) (E : XK) (P : Prg) (cl : Cl) (c : C) (e : Expr) : Prop := PW X e (tRB G E (evB P cl c))
abbrev PAv (X : Cx) (G : Ah.G) (E : XK) (P : Prg) (cl : Cl) (c : C) (es : List Expr) : Prop := PA X es (tRL G E (evL P cl c))

theorem pv_var {i : Nat} {x : Str} (hN : X.N[i]? = some x) (hv : visB X.env.scope x = true) (hn : nmOk x = true) : PEv X G E P cl (.var i) (.Name x pos) := by
  refine PE.imp (pe_var hN (vis_of hv) (nmOk_1 hn) (nmOk_2 hn)) fun σ H Q ⟨B, env, s, at_, h⟩ => ?_
  simp only [ev] at h
  split at h
  · rename_i d hd
    obtain ⟨v, h1, h2⟩ := at_.rel.val i d hd
    exact ⟨v, h1, fin.here h at_.good h2⟩
  · exact h.elim
theorem pv_int {i : Int} {j : Nat} : PEv X G E P cl (.int i) (.Constant (.int i) j pos) := PE.imp pe_int fun σ H Q ⟨B, env, s, at_, h⟩ => fin.here h at_.good (.int i)
theorem pv_bl {i : Bool} {j : Nat} : PEv X G E P cl (.bl i) (.Constant (.bool i) j pos) := PE.imp pe_bl fun σ H Q ⟨B, env, s, at_, h⟩ => fin.here h at_.good (.bl i)
theorem pv_non {j : Nat} : PEv X G E P cl .non (.Constant .none j pos) := PE.imp pe_non fun σ H Q ⟨B, env, s, at_, h⟩ => fin.here h at_.good .non
theorem pv_str {i : Str} {j : Nat} (hs : sOk i = true) : PEv X G E P cl (.str i) (.Constant (.str i) j pos) := PE.imp pe_str fun σ H Q ⟨B, env, s, at_, h⟩ => fin.here h at_.good (.str hs)

/-- two things, then a reading of both by values -/
theorem two {σ : L2.St} {H : Hp} {B : Bar} {env : En} {s : Dr} {k : D → D → Dr → R D} {Q : VK} {R : V → V → Hp → Prop} (at_ : At G B env s σ H)
    (h : fin (relD G B) G E H Q ((ev P cl a env s).bind fun x s => (ev P cl b env s).bind fun y s => k x y s))
    (hk : ∀ x y s vx vy H', Ext G H H' → At G B env s σ H' → Den G B H' x vx → Den G B H' y vy → fin (relD G B) G E H' Q (k x y s) → R vx vy H') :
    tR G E (ev P cl a) σ H fun vx H1 => tR G E (ev P cl b) σ H1 fun vy H2 => R vx vy H2 :=
  ⟨B, env, s, at_, h.bind fun x s1 vx H1 _ x1 g1 d1 h1 => ⟨B, env, s1, at_.ext x1 g1, h1.bind fun y s2 vy H2 _ x2 g2 d2 h2 =>
    hk x y s2 vx vy H2 (x1.trans x2) ((at_.ext x1 g1).ext x2 g2) (d1.ext x2 g1.dr (at_.ext x1 g1).bok) d2 h2⟩⟩
theorem one {σ : L2.St} {H : Hp} {B : Bar} {env : En} {s : Dr} {k : D → Dr → R D} {Q : VK} {R : V → Hp → Prop} (at_ : At G B env s σ H)
    (h : fin (relD G B) G E H Q ((ev P cl a env s).bind fun x s => k x s))
    (hk : ∀ x s vx H', Ext G H H' → At G B env s σ H' → Den G B H' x vx → fin (relD G B) G E H' Q (k x s) → R vx H') :
    tR G E (ev P cl a) σ H fun vx H1 => R vx H1 :=
  ⟨B, env, s, at_, h.bind fun x s1 vx H1 _ x1 g1 d1 h1 => hk x s1 vx H1 x1 (at_.ext x1 g1) d1 h1⟩
theorem fin_ofO {α β : Type} {rel : Hp → α → β → Prop} {H : Hp} {Q : β → Hp → Prop} {o : Option α} {s : Dr} (h : fin rel G E H Q (ofO o s)) : ∃ a, o = some a ∧ fin rel G E H Q (.ok a s) := by
  cases o with
  | none => exact h.elim
  | some a => exact ⟨a, rfl, h⟩

theorem pv_bin (hK : G.K = X.K) {op : Operator} (ha : PEv X G E P cl a ea) (hb : PEv X G E P cl b eb) : PEv X G E P cl (.bin op a b) (.BinOp ea op eb pos) := by
  refine PE.imp (pe_op opr_W ha hb) fun σ H Q ⟨B, env, s, at_, h⟩ => ?_
  simp only [ev] at h
  refine two at_ h fun x y s vx vy H' x1 at' d1 d2 h' => ?_
  obtain ⟨d, e1, h'⟩ := fin_ofO h'
  exact op_ok hK e1 d1 d2 at'.bok at'.good h'
theorem pv_neg (ha : PEv X G E P cl a ea) : PEv X G E P cl (.neg a) (.UnaryOp .USub ea pos) := by
  refine PE.imp (pe_un un_neg ha) fun σ H Q ⟨B, env, s, at_, h⟩ => ?_
  simp only [ev] at h
  refine one at_ h fun x s vx H' x1 at' d1 h' => ?_
  split at h'
  · cases d1
    exact ⟨_, rfl, fin.here h' at'.good (.int _)⟩
  · exact h'.elim
theorem pv_not (hK : G.K = X.K) (ha : PEv X G E P cl a ea) : PEv X G E P cl (.not a) (.UnaryOp .Not ea pos) := by
  refine PE.imp (pe_notT ha) fun σ H Q ⟨B, env, s, at_, h⟩ => ?_
  simp only [ev] at h
  refine one at_ h fun x s vx H' x1 at' d1 h' => ?_
  split at h'
  · rename_i k hk
    exact ⟨k, tru_v hK hk d1, fin.here h' at'.good (.bl _)⟩
  · exact h'.elim
theorem pv_and {rest : List Expr} (hK : G.K = X.K) (ha : PEv X G E P cl a ea) (hb : PEv X G E P cl b (.BoolOp .And (eb :: rest) pos)) : PEv X G E P cl (.and a b) (.BoolOp .And (ea :: eb :: rest) pos) := by
  refine PE.imp (pe_andT ha hb) fun σ H Q ⟨B, env, s, at_, h⟩ => ?_
  simp only [ev] at h
  refine one at_ h fun x s vx H' x1 at' d1 h' => ?_
  split at h'
  · rename_i hk
    exact ⟨true, tru_v hK hk d1, by rw [if_pos rfl]; exact ⟨B, env, s, at', h'⟩⟩
  · rename_i hk
    exact ⟨false, tru_v hK hk d1, by rw [if_neg Bool.false_ne_true]; exact fin.here h' at'.good d1⟩
  · exact h'.elim
theorem pv_or {rest : List Expr} (hK : G.K = X.K) (ha : PEv X G E P cl a ea) (hb : PEv X G E P cl b (.BoolOp .Or (eb :: rest) pos)) : PEv X G E P cl (.or a b) (.BoolOp .Or (ea :: eb :: rest) pos) := by
  refine PE.imp (pe_orT ha hb) fun σ H Q ⟨B, env, s, at_, h⟩ => ?_
  simp only [ev] at h
  refine one at_ h fun x s vx H' x1 at' d1 h' => ?_
  split at h'
  · rename_i hk
    exact ⟨true, tru_v hK hk d1, by rw [if_pos rfl]; exact fin.here h' at'.good d1⟩
  · rename_i hk
    exact ⟨false, tru_v hK hk d1, by rw [if_neg Bool.false_ne_true]; exact ⟨B, env, s, at', h'⟩⟩
  · exact h'.elim
theorem pv_one {op : BoolOp} (h : PEv X G E P cl a ea) : PEv X G E P cl a (.BoolOp op [ea] pos) := pe_one h
/-! tests -/
theorem tB_one {σ : L2.St} {H : Hp} {B : Bar} {env : En} {s : Dr} {k : Bool → Dr → R D} {Q : VK} {R' : Bool → Hp → Prop} (at_ : At G B env s σ H)
    (h : fin (relD G B) G E H Q ((ev P cl c env s).bind fun x s => match x.truth with | some b => k b s | none => .no))
    (hk : ∀ b s H', Ext G H H' → At G B env s σ H' → fin (relD G B) G E H' Q (k b s) → R' b H') :
    tRB G E (evB P cl c) σ H fun b H1 => R' b H1 := by
  refine ⟨B, env, s, at_, ?_⟩
  unfold evB
  cases hr : ev P cl c env s with
  | ok x s1 =>
    rw [hr] at h
    simp only [R.bind_ok] at h ⊢
    split at h
    · rename_i b hb
      rw [hb]
      exact fun b' H1 x1 g1 eb => eb ▸ hk b s1 H1 x1 (at_.ext x1 g1) (h.at x1)
    · exact h.elim
  | exc c ds s1 => rw [hr] at h; exact h
  | no => rw [hr] at h; exact h
theorem pv_ife (ht : PTv X G E P cl c ec) (ha : PEv X G E P cl a ea) (hb : PEv X G E P cl b eb) : PEv X G E P cl (.ife c a b) (.IfExp ec ea eb pos) := by
  refine PE.imp (pe_ifExp ht ha hb) fun σ H Q ⟨B, env, s, at_, h⟩ => ?_
  have h : fin (relD G B) G E H Q ((ev P cl c env s).bind fun x s => match x.truth with | some k => (if k = true then ev P cl a env s else ev P cl b env s) | none => .no) := by
    simp only [ev] at h
    cases hr : ev P cl c env s with
    | ok x s1 =>
      rw [hr] at h
      simp only [R.bind_ok] at h ⊢
      cases hk : x.truth with
      | none => rw [hk] at h; exact h
      | some k => rw [hk] at h; cases k <;> exact h
    | exc c ds s1 => rw [hr] at h; exact h
    | no => rw [hr] at h; exact h
  refine tB_one at_ h fun k s H' x1 at' h' => ?_
  cases k
  · rw [if_neg Bool.false_ne_true] at h' ⊢; exact ⟨B, env, s, at', h'⟩
  · rw [if_pos rfl] at h' ⊢; exact ⟨B, env, s, at', h'⟩
/-- a test as its value's truth -/
theorem pt_of (hK : G.K = X.K) (h : PEv X G E P cl c e) (he : ∀ whole, isTrue e X.env whole = (do let v ← whole; standAt e.pos; holding [v] (truthy v))) : PTv X G E P cl c e := by
  refine PT.imp (pt_truth h he) fun σ H Q ⟨B, env, s, at_, q⟩ => ?_
  refine ⟨B, env, s, at_, ?_⟩
  unfold evB at q
  refine q.bind fun x s1 vx H1 _ x1 g1 d1 h1 => ?_
  obtain ⟨k, e1, h1⟩ := fin_ofO h1
  exact ⟨k, tru_v hK e1 d1, h1 k H1 Ext.refl g1 rfl⟩
theorem evB_not : evB P cl (.not a) = fun env s => (evB P cl a env s).bind fun b s => .ok (!b) s := by
  funext env s
  unfold evB
  simp only [ev]
  cases ev P cl a env s with
  | ok x s => simp only [R.bind_ok]; cases x.truth <;> rfl
  | exc c ds s => rfl
  | no => rfl
theorem evB_and : evB P cl (.and a b) = fun env s => (evB P cl a env s).bind fun k s => if k = true then evB P cl b env s else .ok false s := by
  funext env s
  unfold evB
  simp only [ev]
  cases ev P cl a env s with
  | ok x s =>
    simp only [R.bind_ok]
    cases h : x.truth with
    | none => rfl
    | some k => cases k <;> simp [ofO, h]
  | exc c ds s => rfl
  | no => rfl
theorem evB_or : evB P cl (.or a b) = fun env s => (evB P cl a env s).bind fun k s => if k = true then .ok true s else evB P cl b env s := by
  funext env s
  unfold evB
  simp only [ev]
  cases ev P cl a env s with
  | ok x s =>
    simp only [R.bind_ok]
    cases h : x.truth with
    | none => rfl
    | some k => cases k <;> simp [ofO, h]
  | exc c ds s => rfl
  | no => rfl
theorem evB_ife : evB P cl (.ife c a b) = fun env s => (evB P cl c env s).bind fun k s => if k = true then evB P cl a env s else evB P cl b env s := by
  funext env s
  unfold evB
  simp only [ev]
  cases ev P cl c env s with
  | ok x s =>
    simp only [R.bind_ok]
    cases h : x.truth with
    | none => rfl
    | some k => cases k <;> rfl
  | exc c ds s => rfl
  | no => rfl
theorem ptv_not (ha : PTv X G E P cl a ea) : PTv X G E P cl (.not a) (.UnaryOp .Not ea pos) := by
  refine PT.imp (pt_not ha) fun σ H Q ⟨B, env, s, at_, h⟩ => ?_
  rw [evB_not] at h
  exact ⟨B, env, s, at_, h.bind fun b s b' H1 _ x1 g1 eb h1 => eb ▸ h1 (!b) H1 Ext.refl g1 rfl⟩
theorem pwv_and {rest : List Expr} (ha : PTv X G E P cl a ea) (hb : PWv X G E P cl b (.BoolOp .And (eb :: rest) pos)) : PWv X G E P cl (.and a b) (.BoolOp .And (ea :: eb :: rest) pos) := by
  refine PW.imp (pw_and ha hb) fun σ H Q ⟨B, env, s, at_, h⟩ => ?_
  rw [evB_and] at h
  refine ⟨B, env, s, at_, h.bind fun k s k' H1 _ x1 g1 eb h1 => ?_⟩
  have eb : k = k' := eb
  subst eb
  cases k
  · rw [if_neg Bool.false_ne_true] at h1 ⊢; exact h1 _ H1 Ext.refl g1 rfl
  · rw [if_pos rfl] at h1 ⊢; exact ⟨B, env, s, at_.ext x1 g1, h1⟩
theorem pwv_or {rest : List Expr} (ha : PTv X G E P cl a ea) (hb : PWv X G E P cl b (.BoolOp .Or (eb :: rest) pos)) : PWv X G E P cl (.or a b) (.BoolOp .Or (ea :: eb :: rest) pos) := by
  refine PW.imp (pw_or ha hb) fun σ H Q ⟨B, env, s, at_, h⟩ => ?_
  rw [evB_or] at h
  refine ⟨B, env, s, at_, h.bind fun k s k' H1 _ x1 g1 eb h1 => ?_⟩
  have eb : k = k' := eb
  subst eb
  cases k
  · rw [if_neg Bool.false_ne_true] at h1 ⊢; exact ⟨B, env, s, at_.ext x1 g1, h1⟩
  · rw [if_pos rfl] at h1 ⊢; exact h1 _ H1 Ext.refl g1 rfl
/-- if t else as a test -/
theorem pt_ifExp {tA tB tC : TT} (hc : PT X ec tC) (ha : PT X ea tA) (hb : PT X eb tB) : PT X (.IfExp ec ea eb pos) (fun σ H Q => tC σ H fun k H1 => if k = true then tA σ H1 Q else tB σ H1 Q) := by
  refine ⟨fun pins s σ H Q I h => ?_⟩
  show wpAny _ _ (do if ← isTrue ec X.env (eval ec X.env) then isTrue ea X.env (eval ea X.env) else isTrue eb X.env (eval eb X.env)) _ _ _
  refine wpAny_bind (thn (hc.run pins s σ H _ I h) fun k s1 ⟨H1, I1, q1⟩ => ?_)
  cases k
  · exact hb.run pins s1 σ H1 Q I1 q1
  · exact ha.run pins s1 σ H1 Q I1 q1
theorem ptv_ife (ht : PTv X G E P cl c ec) (ha : PTv X G E P cl a ea) (hb : PTv X G E P cl b eb) : PTv X G E P cl (.ife c a b) (.IfExp ec ea eb pos) := by
  refine PT.imp (pt_ifExp ht ha hb) fun σ H Q ⟨B, env, s, at_, h⟩ => ?_
  rw [evB_ife] at h
  refine ⟨B, env, s, at_, h.bind fun k s k' H1 _ x1 g1 eb h1 => ?_⟩
  have eb : k = k' := eb
  subst eb
  cases k
  · rw [if_neg Bool.false_ne_true] at h1 ⊢; exact ⟨B, env, s, at_.ext x1 g1, h1⟩
  · rw [if_pos rfl] at h1 ⊢; exact ⟨B, env, s, at_.ext x1 g1, h1⟩
end
end Ah

/-! ## AhS4 -/
set_option Elab.async false
set_option linter.all false
set_option maxRecDepth 100000
set_option maxHeartbeats 2000000
/-! Ah: comparisons, displays, items, built-ins as expressions. -/
namespace Ah
open PySem PySem.Spec PyProof.Rows L2
section
variable {X : Cx} {G : G} {E : XK} {P : Prg} {cl : Cl} {pos : Pos} {e ea eb ec : Expr} {a b c : C} {es : List Expr}
/-- not a star -/
def noStar : Expr → Bool | .Starred _ _ => false | _ => true
theorem starEach_cons {e : Expr} {es : List Expr} {env : Env} (h : noStar e = true) : starEach (e :: es) env = (false, eval e env) :: starEach es env := by
  cases e <;> first | rfl | cases h
theorem star_any {pos : Pos} {env : Env} : ∀ {es : List Expr}, es.all noStar = true → (backTo pos (starEach es env)).any (·.1) = false
  | [], _ => rfl
  | e :: es, h => by
    rw [List.all_cons, Bool.and_eq_true] at h
    rw [starEach_cons h.1]
    show (false || (backTo pos (starEach es env)).any (·.1)) = false
    rw [star_any h.2]; rfl
theorem pav_nil : PAv X G E P cl .nil [] := PA.imp pa_nil fun σ H Q ⟨B, env, s, at_, h⟩ => h [] H Ext.refl at_.good .nil
theorem pav_cons {r : C} (hn : noStar e = true) (ha : PEv X G E P cl a e) (hr : PAv X G E P cl r es) : PAv X G E P cl (.cons a r) (e :: es) := by
  refine PA.imp (pa_cons ha hr (starEach_cons hn)) fun σ H Q ⟨B, env, s, at_, h⟩ => ?_
  simp only [evL] at h
  exact ⟨B, env, s, at_, h.bind fun x s1 vx H1 _ x1 g1 d1 h1 => ⟨B, env, s1, at_.ext x1 g1, h1.bind fun xs s2 vs H2 _ x2 g2 d2 h2 =>
    h2 (vx :: vs) H2 Ext.refl g2 (.cons (d1.ext x2 g1.dr (at_.ext x1 g1).bok) d2)⟩⟩
theorem args {σ : L2.St} {H : Hp} {B : Bar} {env : En} {s : Dr} {k : List D → Dr → R D} {Q : VK} {R' : List V → Hp → Prop} (at_ : At G B env s σ H)
    (h : fin (relD G B) G E H Q ((evL P cl a env s).bind fun x s => k x s))
    (hk : ∀ xs s vs H', Ext G H H' → At G B env s σ H' → DenL G B H' xs vs → fin (relD G B) G E H' Q (k xs s) → R' vs H') :
    tRL G E (evL P cl a) σ H fun vs H1 => R' vs H1 :=
  ⟨B, env, s, at_, h.bind fun x s1 vx H1 _ x1 g1 d1 h1 => hk x s1 vx H1 x1 (at_.ext x1 g1) d1 h1⟩
theorem lim_bind {α β : Type} {r : R (List α)} {k : List α → Dr → R β} : r.lim.bind k = r.bind fun l s => if l.length ≤ LIM then k l s else .no := by
  unfold R.lim
  cases r with
  | ok l s => simp only [R.bind_ok]; split <;> rfl
  | exc c ds s => rfl
  | no => rfl
theorem pv_tup {j : Nat} (ha : PAv X G E P cl a es) : PEv X G E P cl (.tup a) (.Tuple es j pos) := by
  refine PE.imp (pe_tup ha) fun σ H Q ⟨B, env, s, at_, h⟩ => ?_
  simp only [ev] at h
  rw [lim_bind] at h
  refine args at_ h fun xs s vs H' x1 at' d h' => ?_
  split at h'
  · rename_i z
    exact ⟨by rw [← d.length]; exact le_line z, fun p hp => fin.tup h' at'.good at'.bok d z hp⟩
  · exact h'.elim
theorem pv_lst (ha : PAv X G E P cl a es) : PEv X G E P cl (.lst a) (.List es pos) := by
  refine PE.imp (pe_lst ha) fun σ H Q ⟨B, env, s, at_, h⟩ => ?_
  simp only [ev] at h
  rw [lim_bind] at h
  refine args at_ h fun xs s vs H' x1 at' d h' => ?_
  split at h'
  · rename_i z
    exact ⟨by rw [← d.length]; exact le_line z, fun p hp => fin.lst h' at'.good at'.bok d z hp⟩
  · exact h'.elim
def isIns : D → Bool | .ins _ _ => true | .lst [.ins _ _] => true | _ => false
theorem cmpR_of {op : CmpOp} {x y : D} {s : Dr} (h : isIns x = false) : cmpR P cl op x y s = ofO ((cmpD op x y).map .bl) s := by
  unfold cmpR
  split
  · cases h
  · cases h
  · rfl
theorem pv_cmp (hK : G.K = X.K) {op : CmpOp} (hu : X.A.units + 65 < cLine) (hm : behindInMarks op eb = false)
    (hI : ∀ (B : Bar) (H : Hp) (Q : VK) (s : Dr) (x y : D) (vx vy : V), isIns x = true → Den G B H x vx → Den G B H y vy → BOk G B H → Good G s H → fin (relD G B) G E H Q (cmpR P cl op x y s) → rW X (compareOp op) vx vy H Q)
    (ha : PEv X G E P cl a ea) (hb : PEv X G E P cl b eb) : PEv X G E P cl (.cmp op a b) (.Compare ea [op] [eb] pos) := by
  refine PE.imp (pe_cmpR opr_W ha hb hm) fun σ H Q ⟨B, env, s, at_, h⟩ => ?_
  simp only [ev] at h
  refine two at_ h fun x y s vx vy H' x1 at' d1 d2 h' => ?_
  cases hi : isIns x with
  | true => exact hI B H' Q s x y vx vy hi d1 d2 at'.bok at'.good h'
  | false =>
    rw [cmpR_of hi] at h'
    obtain ⟨d, e1, h'⟩ := fin_ofO h'
    obtain ⟨k, e2, rfl⟩ := Option.map_eq_some_iff.mp e1
    exact cmp_ok hK hu e2 d1 d2 at'.good h'
/-- a comparison gives a truth value -/
theorem cmpR_bl {op : CmpOp} {x y d : D} {s s' : Dr} (h : cmpR P cl op x y s = .ok d s') : ∃ k, d = .bl k := by
  unfold cmpR at h
  have fin0 : ∀ {r : R D} {f : Bool → Bool}, (r.bind fun r s => match r with | .bl b => R.ok (.bl (f b)) s | _ => .no) = .ok d s' → ∃ k, d = D.bl k := fun {r f} h => by
    cases r with
    | ok z s1 => cases z <;> simp at h; exact ⟨_, h.1.symm⟩
    | exc c ds s1 => cases h
    | no => cases h
  split at h
  · split at h
    · split at h
      · exact fin0 (f := id) h
      · exact fin0 h
      · cases h
    · cases h
  · split at h
    · split at h
      · split at h
        · rename_i f hf
          cases hr : cl.call f [.ins _ _, .ins _ _] s with
          | ok z s1 =>
            rw [hr] at h
            simp only [R.quiet, R.bind_ok] at h
            split at h
            · split at h
              · cases h; exact ⟨_, rfl⟩
              · cases h
            · cases h
          | exc c ds s1 => rw [hr] at h; cases h
          | no => rw [hr] at h; cases h
        · cases h
      · cases h
    · cases h
  · cases hc : cmpD op x y with
    | none => rw [hc] at h; cases h
    | some k => rw [hc] at h; cases h; exact ⟨k, rfl⟩
theorem ptv_cmp (hK : G.K = X.K) {op : CmpOp} (hu : X.A.units + 65 < cLine) (hm : behindInMarks op eb = false)
    (hI : ∀ (B : Bar) (H : Hp) (Q : VK) (s : Dr) (x y : D) (vx vy : V), isIns x = true → Den G B H x vx → Den G B H y vy → BOk G B H → Good G s H → fin (relD G B) G E H Q (cmpR P cl op x y s) → rW X (compareOp op) vx vy H Q)
    (ha : PEv X G E P cl a ea) (hb : PEv X G E P cl b eb) : PTv X G E P cl (.cmp op a b) (.Compare ea [op] [eb] pos) := by
  refine PT.imp (pt_cmpR opr_W ha hb hm) fun σ H Q ⟨B, env, s, at_, h⟩ => ?_
  have h : fin (relD G B) G E H (fun x H' => ∃ k, x = .bl k ∧ Q k H') ((ev P cl a env s).bind fun x s => (ev P cl b env s).bind fun y s => cmpR P cl op x y s) := by
    unfold evB at h
    simp only [ev] at h
    refine h.bind fun d s1 v H1 er x1 g1 d1 h1 => ?_
    have : ∃ k, d = .bl k := by
      cases e1 : ev P cl a env s with
      | ok x s2 =>
        rw [e1] at er
        simp only [R.bind_ok] at er
        cases e2 : ev P cl b env s2 with
        | ok y s3 => rw [e2] at er; exact cmpR_bl er
        | exc c ds s2 => rw [e2] at er; cases er
        | no => rw [e2] at er; cases er
      | exc c ds s2 => rw [e1] at er; cases er
      | no => rw [e1] at er; cases er
    obtain ⟨k, rfl⟩ := this
    cases d1
    exact ⟨k, rfl, h1 k H1 Ext.refl g1 rfl⟩
  refine two at_ h fun x y s vx vy H' x1 at' d1 d2 h' => ?_
  cases hi : isIns x with
  | true => exact hI B H' _ s x y vx vy hi d1 d2 at'.bok at'.good h'
  | false =>
    rw [cmpR_of hi] at h'
    obtain ⟨d, e1, h'⟩ := fin_ofO h'
    obtain ⟨k, e2, rfl⟩ := Option.map_eq_some_iff.mp e1
    exact cmp_ok hK hu e2 d1 d2 at'.good h'
theorem den_non {B : Bar} {H : Hp} {x : D} {v : V} (h : Den G B H x v) : decide (v = .non) = x.isN := by
  cases h <;> simp [D.isN]
theorem pv_isN {j : Nat} {p : Pos} (ha : PEv X G E P cl a ea) : PEv X G E P cl (.isN a) (.Compare ea [.Is] [.Constant .none j p] pos) := by
  refine PE.imp (pe_cmp (pc_isN ha)) fun σ H Q ⟨B, env, s, at_, h⟩ => ?_
  simp only [ev] at h
  refine one at_ h fun x s vx H' x1 at' d1 h' => ?_
  rw [den_non d1]
  exact fin.here h' at'.good (.bl _)
theorem pv_notN {j : Nat} {p : Pos} (ha : PEv X G E P cl a ea) : PEv X G E P cl (.notN a) (.Compare ea [.IsNot] [.Constant .none j p] pos) := by
  refine PE.imp (pe_cmp (pc_notN ha)) fun σ H Q ⟨B, env, s, at_, h⟩ => ?_
  simp only [ev] at h
  refine one at_ h fun x s vx H' x1 at' d1 h' => ?_
  rw [den_non d1]
  exact fin.here h' at'.good (.bl _)
theorem ptv_isN {j : Nat} {p : Pos} (ha : PEv X G E P cl a ea) : PTv X G E P cl (.isN a) (.Compare ea [.Is] [.Constant .none j p] pos) := by
  refine PT.imp (pt_cmp (pc_isN ha)) fun σ H Q ⟨B, env, s, at_, h⟩ => ?_
  unfold evB at h
  simp only [ev] at h
  have h : fin relB G E H Q ((ev P cl a env s).bind fun x s => .ok x.isN s) := by
    cases hr : ev P cl a env s with
    | ok x s => rw [hr] at h; exact h
    | exc c ds s => rw [hr] at h; exact h
    | no => rw [hr] at h; exact h
  refine ⟨B, env, s, at_, h.bind fun x s1 vx H1 _ x1 g1 d1 h1 => ⟨_, by rw [den_non d1], h1 _ H1 Ext.refl g1 rfl⟩⟩
theorem ptv_notN {j : Nat} {p : Pos} (ha : PEv X G E P cl a ea) : PTv X G E P cl (.notN a) (.Compare ea [.IsNot] [.Constant .none j p] pos) := by
  refine PT.imp (pt_cmp (pc_notN ha)) fun σ H Q ⟨B, env, s, at_, h⟩ => ?_
  unfold evB at h
  simp only [ev] at h
  have h : fin relB G E H Q ((ev P cl a env s).bind fun x s => .ok (!x.isN) s) := by
    cases hr : ev P cl a env s with
    | ok x s => rw [hr] at h; exact h
    | exc c ds s => rw [hr] at h; exact h
    | no => rw [hr] at h; exact h
  refine ⟨B, env, s, at_, h.bind fun x s1 vx H1 _ x1 g1 d1 h1 => ⟨_, by rw [den_non d1], h1 _ H1 Ext.refl g1 rfl⟩⟩
/-- two comparisons in a chain, of no instances -/
theorem chn_core (hK : G.K = X.K) {op op2 : CmpOp} {Q : VK} {σ : L2.St} {H : Hp} {B : Bar} {env : En} {s : Dr} (at_ : At G B env s σ H) (hu : X.A.units + 65 < cLine)
    (h : fin (relD G B) G E H Q (ev P cl (.chn op op2 a b c) env s)) :
    tChain (rW X (compareOp op)) (rW X (compareOp op2)) (tR G E (ev P cl a)) (tR G E (ev P cl b)) (tR G E (ev P cl c)) σ H Q := by
  simp only [ev] at h
  refine two at_ h fun x y s vx vy H' x1 at' d1 d2 h' => ?_
  split at h'
  · rename_i e1
    refine cmp_ok (E := E) (k := true) hK hu e1 d1 d2 at'.good fun z H2 x2 g2 d => ?_
    cases d
    refine ⟨true, rfl, ?_⟩
    rw [if_pos rfl]
    refine one (at'.ext x2 g2) (h'.at x2) fun z s2 vz H3 x3 at3 d3 h3 => ?_
    obtain ⟨d, e2, h3⟩ := fin_ofO h3
    obtain ⟨k, e3, rfl⟩ := Option.map_eq_some_iff.mp e2
    exact cmp_ok hK hu e3 ((d2.ext x2 at'.good.dr at'.bok).ext x3 g2.dr (at'.ext x2 g2).bok) d3 at3.good h3
  · rename_i e1
    refine cmp_ok (E := E) (k := false) hK hu e1 d1 d2 at'.good fun z H2 x2 g2 d => ?_
    cases d
    refine ⟨false, rfl, ?_⟩
    rw [if_neg Bool.false_ne_true]
    exact fin.here (h'.at x2) g2 (.bl _)
  · exact h'.elim
end
end Ah
namespace Ah
open PySem PySem.Spec PyProof.Rows L2
section
variable {X : Cx} {G : G} {E : XK} {P : Prg} {cl : Cl} {pos : Pos} {e ea eb ec : Expr} {a b c : C} {es : List Expr}
theorem lastMarks2 {op op2 : CmpOp} (h : behindInMarks op2 ec = false) : lastMarks [op, op2] [eb, ec] = false := h
theorem pv_chn (hK : G.K = X.K) {op op2 : CmpOp} (hu : X.A.units + 65 < cLine) (hm : behindInMarks op2 ec = false) (ha : PEv X G E P cl a ea) (hb : PEv X G E P cl b eb) (hc : PEv X G E P cl c ec) :
    PEv X G E P cl (.chn op op2 a b c) (.Compare ea [op, op2] [eb, ec] pos) :=
  PE.imp (pe_chain opr_W opr_W ha hb hc (lastMarks2 hm)) fun σ H Q ⟨B, env, s, at_, h⟩ => chn_core hK at_ hu h
theorem chn_bl {op op2 : CmpOp} {env : En} {s s' : Dr} {d : D} (h : ev P cl (.chn op op2 a b c) env s = .ok d s') : ∃ k, d = .bl k := by
  simp only [ev] at h
  cases e1 : ev P cl a env s with
  | ok x s1 =>
    rw [e1] at h
    simp only [R.bind_ok] at h
    cases e2 : ev P cl b env s1 with
    | ok y s2 =>
      rw [e2] at h
      simp only [R.bind_ok] at h
      split at h
      · cases e3 : ev P cl c env s2 with
        | ok z s3 =>
          rw [e3] at h
          simp only [R.bind_ok] at h
          cases e4 : cmpD op2 y z with
          | none => rw [e4] at h; cases h
          | some k => rw [e4] at h; cases h; exact ⟨k, rfl⟩
        | exc c ds s3 => rw [e3] at h; cases h
        | no => rw [e3] at h; cases h
      · cases h; exact ⟨_, rfl⟩
      · cases h
    | exc c ds s2 => rw [e2] at h; cases h
    | no => rw [e2] at h; cases h
  | exc c ds s1 => rw [e1] at h; cases h
  | no => rw [e1] at h; cases h
theorem ptv_chn (hK : G.K = X.K) {op op2 : CmpOp} (hu : X.A.units + 65 < cLine) (hm : behindInMarks op2 ec = false) (ha : PEv X G E P cl a ea) (hb : PEv X G E P cl b eb) (hc : PEv X G E P cl c ec) :
    PTv X G E P cl (.chn op op2 a b c) (.Compare ea [op, op2] [eb, ec] pos) := by
  refine PT.imp (pt_chain opr_W opr_W ha hb hc (lastMarks2 hm)) fun σ H Q ⟨B, env, s, at_, h⟩ => ?_
  refine chn_core hK at_ hu ?_
  unfold evB at h
  refine h.bind fun d s1 v H1 er x1 g1 d1 h1 => ?_
  obtain ⟨k, rfl⟩ := chn_bl er
  cases d1
  exact ⟨k, rfl, h1 k H1 Ext.refl g1 rfl⟩
/-! items and slices -/
def isSlice : Expr → Bool | .Slice _ _ _ _ => true | _ => false
theorem plainIx {b : Expr} (h : isSlice b = false) : PlainIx b := fun o i => by
  cases b <;> first | rfl | cases h
theorem pv_idx (hK : G.K = X.K) (hs : isSlice eb = false) (ha : PEv X G E P cl a ea) (hb : PEv X G E P cl b eb) : PEv X G E P cl (.idx a b) (.Subscript ea eb pos) := by
  refine PE.imp (pe_ix ixr_W ha hb (plainIx hs)) fun σ H Q ⟨B, env, s, at_, h⟩ => ?_
  simp only [ev] at h
  refine two at_ h fun x y s vx vy H' x1 at' d1 d2 h' => ?_
  obtain ⟨d, e1, h'⟩ := fin_ofO h'
  exact idx_ok hK e1 d1 d2 at'.good h'
/-- a part of a slice -/
def evO (P : Prg) (cl : Cl) (c : C) (env : En) (s : Dr) : R (Option Int) := if isNop c then .ok none s else (ev P cl c env s).bind fun l s => match l with | .int i => .ok (some i) s | _ => .no
abbrev relO : Hp → Option Int → Option Int → Prop := fun _ a b => a = b
abbrev POv (X : Cx) (G : Ah.G) (E : XK) (P : Prg) (cl : Cl) (c : C) (e : Option Expr) : Prop := PO X e (fun σ H Q => ∃ (B : Bar) (env : En) (s : Dr), At G B env s σ H ∧ fin relO G E H Q (evO P cl c env s))
theorem PO.imp {e : Option Expr} {t t' : TO} (h : PO X e t) (k : ∀ σ H Q, t' σ H Q → t σ H Q) : PO X e t' := ⟨fun pins s σ H Q I q => h.run pins s σ H Q I (k σ H Q q)⟩
theorem pov_none : POv X G E P cl .nop none := PO.imp po_none fun σ H Q ⟨B, env, s, at_, h⟩ => h none H Ext.refl at_.good rfl
theorem pov_some (hn : isNop c = false) (h : PEv X G E P cl c e) : POv X G E P cl c (some e) := by
  refine PO.imp (po_some h) fun σ H Q ⟨B, env, s, at_, h⟩ => ?_
  unfold evO at h
  rw [hn, if_neg Bool.false_ne_true] at h
  refine ⟨B, env, s, at_, h.bind fun d s1 v H1 er x1 g1 d1 h1 => ?_⟩
  split at h1
  · cases d1
    exact ⟨_, rfl, h1 _ H1 Ext.refl g1 rfl⟩
  · exact h1.elim
theorem pv_sli (hK : G.K = X.K) {lo hi : C} {elo ehi : Option Expr} {p2 : Pos} (ha : PEv X G E P cl a ea) (hl : POv X G E P cl lo elo) (hh : POv X G E P cl hi ehi) : PEv X G E P cl (.sli a lo hi) (.Subscript ea (.Slice elo ehi none p2) pos) := by
  refine PE.imp (pe_slice slr_W ha hl hh) fun σ H Q ⟨B, env, s, at_, h⟩ => ?_
  have h : fin (relD G B) G E H Q ((ev P cl a env s).bind fun x s => (evO P cl lo env s).bind fun l s => (evO P cl hi env s).bind fun h s => ofO (sliD x l h) s) := h
  refine one at_ h fun x s vx H1 x1 at1 d1 h1 => ?_
  refine ⟨B, env, s, at1, h1.bind fun l s2 l' H2 _ x2 g2 el h2 => ?_⟩
  have el : l = l' := el
  subst el
  refine ⟨B, env, s2, at1.ext x2 g2, h2.bind fun u s3 u' H3 _ x3 g3 eu h3 => ?_⟩
  have eu : u = u' := eu
  subst eu
  obtain ⟨d, e1, h3⟩ := fin_ofO h3
  have at3 := (at1.ext x2 g2).ext x3 g3
  exact sli_ok hK e1 (d1.ext (x2.trans x3) at1.good.dr at1.bok) at3.bok at3.good h3
theorem pv_rev {k : Nat} {p1 p2 p3 : Pos} (ha : PEv X G E P cl a ea) : PEv X G E P cl (.rev a) (.Subscript ea (.Slice none none (some (.UnaryOp .USub (.Constant (.int 1) k p1) p2)) p3) pos) := by
  refine PE.imp (pe_revL ha) fun σ H Q ⟨B, env, s, at_, h⟩ => ?_
  simp only [ev] at h
  refine one at_ h fun x s vx H' x1 at' d1 h' => ?_
  split at h'
  · cases d1 with
    | lst n e l z => exact ⟨_, _, rfl, .of e, fun p hp => fin.lst h' at'.good at'.bok l.reverse (by rw [List.length_reverse]; exact z) hp⟩
  · exact h'.elim
end
end Ah

/-! ## AhW -/
set_option Elab.async false
set_option linter.all false
set_option maxRecDepth 100000
set_option maxHeartbeats 2000000
/-! Ah: what stands around: defs, classes, built-ins; calls. -/
namespace Ah
open PySem PySem.Spec PyProof.Rows L2

def tyV (G : G) : Ty → Value
  | .bi n => .type n
  | .cls k => .ref (G.cls k).1
  | .ecl k => .ref (G.ecl k).1
def tyIn : Ty → Bool | .bi n => decide (n ∈ ["NoneType", "bool", "int", "str", "tuple", "list", "dict"]) | _ => true
theorem ty_in {d : D} {t : Ty} (h : d.ty = some t) : tyIn t = true := by
  cases d <;> cases h <;> rfl
/-- the promise of a def -/
def spF (G : G) (np : Nat) (f : List D → Dr → R D) : Sp := fun vs H Q E => vs.length = np ∧ ∃ B ds s, DenL G B H ds vs ∧ BOk G B H ∧ Good G s H ∧ fin (relD G B) G E H Q (f ds s)
/-- all that stood stands, but x -/
def ExtB (G : G) (x : Addr) (H H' : Hp) : Prop := ∀ a o, H a = some o → a ≠ x → ¬ isDr G a → (∀ ps, o ≠ .tbl ps) → H' a = some o
/-- the promise of an __init__: the instance stands filled -/
def finM (G : G) (B : Bar) (x dx : Addr) (c : Nat) (E : XK) (H : Hp) (Q : VK) : R D → Prop
  | .ok (.ins c' ds) s => c' = c ∧ ∀ vs H', ExtB G x H H' → Good G s H' → H' x = some (.ins (G.cls c).1 dx ((G.cls c).2.zip vs)) → (G.cls c).2.length = vs.length → DenL G B H' ds vs → Q .non H'
  | .exc c ds s => ∀ cls d H', ExtB G x H H' → Good G s H' → IsX G H' c ds cls d → E cls d H'
  | _ => False
def spM (G : G) (np : Nat) (c : Nat) (f : List D → Dr → R D) : Sp := fun vs H Q E => vs.length = np ∧ ∃ B ds s x dx vs', vs = .ref x :: vs' ∧ B x ∧ H x = some (.ins (G.cls c).1 dx []) ∧ DenL G B H ds vs' ∧ BOk G B H ∧ Good G s H ∧ finM G B x dx c E H Q (f ds s)
def fullD (P : Prg) (f n : Nat) (ks : List Str) (ds : List D) : Option (List D) := if ks = [] ∧ (P.fns[f]?.elim 0 (·.ps.length)) = n then some ds else kwPut P f ks ds
theorem pickL_rel {α β : Type} {Rl : α → β → Prop} {dfl xs : List α} {dfl' xs' : List β} (h1 : Paired Rl dfl dfl') (h2 : Paired Rl xs xs') : ∀ {is : List (Option (Sum Nat Nat))} {full : List α}, pickL dfl xs is = some full → ∃ full', pickL dfl' xs' is = some full' ∧ Paired Rl full full'
  | [], full, h => by cases h; exact ⟨[], rfl, .nil⟩
  | o :: r, full, h => by
    have get : ∀ {l : List α} {l' : List β} {i : Nat} {a : α}, Paired Rl l l' → l[i]? = some a → ∃ b, l'[i]? = some b ∧ Rl a b := by
      intro l l' i a p
      induction p generalizing i with
      | nil => intro e; simp at e
      | cons r t ih =>
        intro e
        cases i with
        | zero => simp at e; subst e; exact ⟨_, rfl, r⟩
        | succ i => obtain ⟨b, e1, e2⟩ := ih (i := i) (by simpa using e); exact ⟨b, by simpa using e1, e2⟩
    simp only [pickL] at h
    split at h
    · rename_i a l ha hl
      cases h
      obtain ⟨l', e1, p1⟩ := pickL_rel h1 h2 hl
      have : ∃ b, pick dfl' xs' o = some b ∧ Rl a b := by
        rcases o with _ | (j | j)
        · cases ha
        · exact get h2 ha
        · exact get h1 ha
      obtain ⟨b, e2, r2⟩ := this
      exact ⟨b :: l', by simp only [pickL, e2, e1], .cons r2 p1⟩
    · cases h
theorem pickL_len {α : Type} {dfl xs : List α} : ∀ {is : List (Option (Sum Nat Nat))} {full : List α}, pickL dfl xs is = some full → full.length = is.length
  | [], full, h => by cases h; rfl
  | o :: r, full, h => by
    simp only [pickL] at h
    split at h
    · rename_i a l ha hl
      cases h
      rw [List.length_cons, pickL_len hl]; rfl
    · cases h
theorem kwPutG_len {α : Type} {ps ks : List Str} {dfl xs full : List α} {n : Nat} (h : kwPutG ps dfl n ks xs = some full) : full.length = ps.length := by
  have := pickL_len h
  simpa using this
theorem kwPutG_rel {α β : Type} {Rl : α → β → Prop} {ps ks : List Str} {dfl xs full : List α} {dfl' xs' : List β} {n : Nat} (h1 : Paired Rl dfl dfl') (h2 : Paired Rl xs xs') (h : kwPutG ps dfl n ks xs = some full) : ∃ full', kwPutG ps dfl' n ks xs' = some full' ∧ Paired Rl full full' := by
  unfold kwPutG at *
  rw [← Paired.length h1]
  exact pickL_rel h1 h2 h
theorem kwPutG_head {α : Type} {ps ks : List Str} {dfl xs full : List α} {n : Nat} {x : α} (hp : ps ≠ []) (h : kwPutG ps dfl (n + 1) ks (x :: xs) = some full) : ∃ r, full = x :: r := by
  unfold kwPutG at h
  cases ps with
  | nil => exact absurd rfl hp
  | cons p0 pr =>
    rw [List.length_cons, List.range_succ_eq_map, List.map_cons] at h
    have e : pickI (p0 :: pr) dfl.length (n + 1) ks 0 = some (.inl 0) := by unfold pickI; rw [if_pos (Nat.succ_pos n)]
    rw [e] at h
    simp only [pickL, pick] at h
    split at h
    · rename_i a l ha hl
      cases h
      simp at ha
      exact ⟨l, by rw [ha]⟩
    · cases h
theorem pickI_ne {ps ks : List Str} {nd n i : Nat} : pickI ps nd (n + 1) ks (i + 1) ≠ some (.inl 0) := by
  unfold pickI
  split
  · intro h; cases h
  · split
    · intro h; injection h with h; injection h with h; omega
    · split
      · intro h; injection h with h; cases h
      · intro h; cases h
theorem pickL_swap {α : Type} {dfl xs : List α} {x y : α} : ∀ {is : List (Option (Sum Nat Nat))}, (∀ o ∈ is, o ≠ some (.inl 0)) → pickL dfl (x :: xs) is = pickL dfl (y :: xs) is
  | [], _ => rfl
  | o :: r, h => by
    have e1 : pick dfl (x :: xs) o = pick dfl (y :: xs) o := by
      rcases o with _ | (j | j)
      · rfl
      · cases j with
        | zero => exact absurd rfl (h _ List.mem_cons_self)
        | succ j => rfl
      · rfl
    have e2 := pickL_swap (dfl := dfl) (xs := xs) (x := x) (y := y) fun o ho => h o (List.mem_cons_of_mem _ ho)
    simp only [pickL, e1, e2]
theorem kwPutG_swap {α : Type} {ps ks : List Str} {dfl xs r : List α} {n : Nat} {x y : α} (hp : ps ≠ []) (h : kwPutG ps dfl (n + 1) ks (x :: xs) = some (x :: r)) : kwPutG ps dfl (n + 1) ks (y :: xs) = some (y :: r) := by
  unfold kwPutG at *
  cases ps with
  | nil => exact absurd rfl hp
  | cons p0 pr =>
    rw [List.length_cons, List.range_succ_eq_map, List.map_cons] at h ⊢
    have e : pickI (p0 :: pr) dfl.length (n + 1) ks 0 = some (.inl 0) := by unfold pickI; rw [if_pos (Nat.succ_pos n)]
    rw [e] at h ⊢
    simp only [pickL, pick, List.getElem?_cons_zero] at h ⊢
    rw [pickL_swap (x := y) (y := x)]
    · split at h
      · rename_i a l ha hl
        cases ha
        cases h
        rw [hl]
      · cases h
    · intro o ho
      rw [List.map_map] at ho
      obtain ⟨i, _, rfl⟩ := List.mem_map.mp ho
      exact pickI_ne
theorem DenL.pairs {G : G} {B : Bar} {H : Hp} : ∀ {ds : List D} {vs : List V}, DenL G B H ds vs → Paired (Den G B H) ds vs
  | [], _, .nil => .nil
  | _ :: _, _, .cons h t => .cons h t.pairs
theorem DenL.of_pairs {G : G} {B : Bar} {H : Hp} : ∀ {ds : List D} {vs : List V}, Paired (Den G B H) ds vs → DenL G B H ds vs
  | [], _, .nil => .nil
  | _ :: _, _, .cons h t => .cons h (DenL.of_pairs t)
/-- how a call binds: defaults dvs; n by place, ks by name -/
def Shp (K : PySem.W.Frag) (fi : FnI) (fd : FuncData) (n : Nat) (ks : List Str) : Prop :=
  ∃ (dvs : List V) (its : List Value), Vals dvs its ∧ (∀ (G : G) (B : Bar) (H : Hp), G.K = K → DenL G B H fi.dfl dvs) ∧
    ∀ (s : Shared) (us ws : List Value), K.In s.heap → us.length = n → ws.length = ks.length → ∀ full, kwPutG fi.ps its n ks (us ++ ws) = some full → BindsTo s fd ⟨us, ks.zip ws⟩ (fi.ps.zip full)
structure ClF (K : PySem.W.Frag) (C : Addr) : Prop where
  cl : Cls K C
  ha : PySem.W.findIn K (.ref C) "__class__" = some (some (.builtin "object.__class__"))
  hn : PySem.W.specialIn K (.builtin "object.__class__") "__get__" = some (some (.builtin "getset_descriptor.__get__"))
  htk : PySem.W.takesIn K (.builtin "object.__class__") = some true
  hm : PySem.W.mroIn K C (.type "object") = some true
/-- a def that keeps its promise where nothing is being shown -/
structure FnG (P : Program) (w : World) (K : PySem.W.Frag) (mg : Str → Option Value) (base : Heap) (U : CXT) (k : Nat) (gq : Bool) (f : Addr) (fd : FuncData) (ps : List Str) (sp : Sp) : Prop where
  len : ∀ vs H Q E, sp vs H Q E → vs.length = ps.length
  run : ∀ (A : Around) (outer : List Env) (s : Shared) (H : Hp) (args : Args) (us : List Value) (vs : List V) (Q : VK) (E : XK), Room k A → (gq = true → A.guards = some []) → Env0 P w K mg base A outer s H → BindsTo s fd args (ps.zip us) → Vals vs us → sp vs H Q E →
    codeAny (model P w) A (.call (.ref f) args) (CR U outer P w H s Q E) s
/-- what the raising of an own class asks -/
def RaiF (K : PySem.W.Frag) (C : Addr) : Prop := ∃ (B newId initId : String) (bmB : List Value), ExcBaseFacts B newId initId bmB ∧ PySem.W.excIn K C bmB newId = true ∧ PySem.W.keepIn K (.ref C) = true ∧ PySem.W.subIn K (.ref C) (.type "BaseException") = some true ∧ PySem.W.typeIn K (.ref C) = some (.type "type")
/-- shapes of calls: which def, how many by place, which by name -/
abbrev Shapes := List (Nat × Nat × List Str)
structure Wd (prog : Program) (w : World) (K : PySem.W.Frag) (mg : Str → Option Value) (base : Heap) (G : G) (P : Prg) (SH : Shapes) (cl : Cl) (k : Nat) : Prop where
  gk : G.K = K
  blt : ∀ x ∈ (["len", "tuple", "list", "all", "set", "repr", "min", "max", "str", "int", "sorted", "sum", "abs", "isinstance", "range", "enumerate", "bool", "dict"] : List Str), mg x = none
  bty : ∀ n : String, n ∈ ["str", "int", "bool", "list", "tuple", "dict"] → mg (n : Str) = none
  fn : ∀ f fi, P.fns[f]? = some fi → fi.name ≠ Str.empty → ∃ addr fd, mg fi.name = some (.ref addr) ∧ PySem.W.keepIn K (.ref addr) = true ∧ FnG prog w K mg base (L2.CX prog w) k fi.gd addr fd fi.ps (spF G fi.ps.length (cl.call f)) ∧ ∀ n ks, (f, n, ks) ∈ SH → Shp K fi fd n ks
  cls : ∀ c ci, P.cls[c]? = some ci → ∃ fi addr fd, P.fns[ci.init]? = some fi ∧ mg ci.name = some (.ref (G.cls c).1) ∧ (G.cls c).2 = ci.flds ∧ ci.flds.Nodup ∧ ClF K (G.cls c).1 ∧ Mk K (G.cls c).1 addr ∧ FnG prog w K mg base (L2.CX prog w) k false addr fd fi.ps (spM G fi.ps.length c (cl.make c)) ∧ (∀ n ks, (ci.init, n, ks) ∈ SH → Shp K fi fd n ks) ∧
    (∀ x ∈ ci.flds, NoAttr K (G.cls c).1 x) ∧
    (∀ x f, ci.props.lookup x = some f → ∃ fi p g fd, P.fns[f]? = some fi ∧ PropOf K (G.cls c).1 x p g ∧ FnG prog w K mg base (L2.CX prog w) k false g fd fi.ps (spF G fi.ps.length (cl.call f)) ∧ Binds K fd fi.ps [] ∧ fi.ps.length = 1) ∧
    (∀ f, ci.eqf = some f → ∃ fi g fd, P.fns[f]? = some fi ∧ PySem.W.findIn K (.ref (G.cls c).1) "__eq__" = some (some (.ref g)) ∧ PySem.W.isFn K (.ref g) = true ∧ FnG prog w K mg base (L2.CX prog w) k false g fd fi.ps (spF G fi.ps.length (cl.call f)) ∧ Binds K fd fi.ps [] ∧ fi.ps.length = 2 ∧ PySem.W.findIn K (.ref (G.cls c).1) "__ne__" = some (some (.builtin "object.__ne__")) ∧ PySem.W.subIn K (.ref (G.cls c).1) (.type "object") = some true) ∧
    (∀ t : Ty, tyIn t = true → PySem.W.notFirst K (G.cls c).1 (tyV G t) = true)
  ecs : ∀ c ci, P.ecs[c]? = some ci → mg ci.name = some (.ref (G.ecl c).1) ∧ (G.ecl c).2 = ci.flds ∧ ExcC K (G.ecl c).1
  excs : ∀ c, ExcC K (G.ecl c).1
  rai : ∀ c ci, P.ecs[c]? = some ci → ci.flds = [] → RaiF K (G.ecl c).1
  clf : ∀ c, ClF K (G.cls c).1
  isi : ∀ t c b, P.isi t c = some b → PySem.W.kitOne K (tyV G t) (tyV G c) = some b
  mkI : ∀ c ds s d s', cl.make c ds s = .ok d s' → ∃ fs, d = .ins c fs
  gcs : ∀ (j : Nat) (x : Str) (d : D), P.gcs[j]? = some (x, d) → ∃ u v, mg x = some u ∧ RelV v u ∧ ∀ B H, Den G B H d v
structure XOk (X : Cx) (G : G) (P : Prg) (SH : Shapes) (cl : Cl) (E : XK) (k : Nat) : Prop where
  wd : Wd X.prog X.w X.K X.mg X.base G P SH cl k
  nd : X.N.Nodup
  calm : X.calm = true
  room : Room (k + 2) X.A
  tk : Takes X (fun cls d _ H => E cls d H)
theorem XOk.K {X : Cx} {G : G} {P : Prg} {SH : Shapes} {cl : Cl} {E : XK} {k : Nat} (x : XOk X G P SH cl E k) : G.K = X.K := x.wd.gk
theorem XOk.hu {X : Cx} {G : G} {P : Prg} {SH : Shapes} {cl : Cl} {E : XK} {k : Nat} (x : XOk X G P SH cl E k) : X.A.units + 65 < cLine := by
  have := x.room.un
  omega
theorem XOk.passes {X : Cx} {G : G} {P : Prg} {SH : Shapes} {cl : Cl} {E : XK} {k : Nat} (x : XOk X G P SH cl E k) : Passes (L2.CX X.prog X.w) X E := passes_call x.tk fun _ _ _ _ h => h

section
variable {X : Cx} {G : G} {E : XK} {P : Prg} {SH : Shapes} {cl : Cl} {k : Nat} {pos p : Pos} {e ea eb ec : Expr} {a b c : C} {es : List Expr} {kws : List Keyword}
/-! ### keywords -/
abbrev PKv (X : Cx) (G : Ah.G) (E : XK) (P : Prg) (cl : Cl) (c : C) (kws : List Keyword) : Prop := PK X kws (tRL G E (evL P cl c))
theorem PK.imp {t t' : TA} (h : PK X kws t) (k : ∀ σ H Q, t' σ H Q → t σ H Q) : PK X kws t' := ⟨fun pos pins s σ H Q I q => h.run pos pins s σ H Q I (k σ H Q q)⟩
theorem pkv_nil : PKv X G E P cl .nil [] := PK.imp pk_nil fun σ H Q ⟨B, env, s, at_, h⟩ => h [] H Ext.refl at_.good .nil
theorem pkv_cons {r : C} {nm : Option Str} {kp : Pos} (ha : PEv X G E P cl a e) (hr : PKv X G E P cl r kws) : PKv X G E P cl (.cons a r) (⟨nm, e, kp⟩ :: kws) := by
  refine PK.imp (pk_cons ha hr) fun σ H Q ⟨B, env, s, at_, h⟩ => ?_
  simp only [evL] at h
  exact ⟨B, env, s, at_, h.bind fun x s1 vx H1 _ x1 g1 d1 h1 => ⟨B, env, s1, at_.ext x1 g1, h1.bind fun xs s2 vs H2 _ x2 g2 d2 h2 =>
    h2 (vx :: vs) H2 Ext.refl g2 (.cons (d1.ext x2 g1.dr (at_.ext x1 g1).bok) d2)⟩⟩
def kwNames : List Keyword → List Str
  | [] => []
  | ⟨some n, _, _⟩ :: r => n :: kwNames r
  | ⟨none, _, _⟩ :: r => kwNames r
def kwAll : List Keyword → Bool
  | [] => true
  | ⟨some _, _, _⟩ :: r => kwAll r
  | ⟨none, _, _⟩ :: _ => false
theorem kw_all {pos : Pos} {env : Env} : ∀ {kws : List Keyword}, kwAll kws = true → (backToKw pos (keywordEach kws env)).all (·.1.isSome) = true
  | [], _ => rfl
  | ⟨some n, v, q⟩ :: r, h => by
    show (true && (backToKw pos (keywordEach r env)).all (·.1.isSome)) = true
    rw [kw_all (kws := r) h]; rfl
  | ⟨none, _, _⟩ :: _, h => by cases h
theorem kw_any {pos : Pos} {env : Env} : ∀ {kws : List Keyword}, kwAll kws = true → (backToKw pos (keywordEach kws env)).any (·.1.isNone) = false
  | [], _ => rfl
  | ⟨some n, v, q⟩ :: r, h => by
    show (false || (backToKw pos (keywordEach r env)).any (·.1.isNone)) = false
    rw [kw_any (kws := r) h]; rfl
  | ⟨none, _, _⟩ :: _, h => by cases h
theorem kw_map {pos : Pos} {env : Env} : ∀ {kws : List Keyword}, kwAll kws = true → (backToKw pos (keywordEach kws env)).filterMap (·.1) = kwNames kws
  | [], _ => rfl
  | ⟨some n, v, q⟩ :: r, h => by
    have e : (backToKw pos (keywordEach r env)).filterMap (·.1) = kwNames r := kw_map h
    show List.filterMap (fun x => x.fst) ((some n, _) :: backToKw pos (keywordEach r env)) = n :: kwNames r
    rw [← e]; rfl
  | ⟨none, _, _⟩ :: _, h => by cases h
/-- a call of a value that stands in the written part -/
theorem pe_callG {x : Str} {f : Value} {t tk : TA} {R' : List V → List V → Hp → VK → Prop} (hg : Gl X x) (hm : X.mg x = some f) (hk : PySem.W.keepIn X.K f = true) (hns : (ea :: es).all noStar = true) (hkn : kwAll kws = true) (ha : PA X (ea :: es) t) (hkw : PK X kws tk)
    (hrun : ∀ (pins : List (Addr × Obj)) (s : Shared) (σ : L2.St) (H : Hp) (Q : VK) (us ws : List Value) (vs zs : List V), Inv X pins σ H s → Vals vs us → Vals zs ws → R' vs zs H Q → wpAny (model X.prog X.w) X.A (call f us ((kwNames kws).zip ws)) (EP X pins σ Q) X.xe s)
    (hdb : (x == ("__debug__" : Str)) = false) : PE X (.Call (.Name x p) (ea :: es) kws pos) (fun σ H Q => t σ H fun vs H1 => tk σ H1 fun zs H2 => R' vs zs H2 Q) := by
  refine ⟨fun pins s σ H Q I h => ?_⟩
  refine wpAny_Call_Name_kw (ld_glob I hg hm ?_ hdb)
  rw [List.all_cons, Bool.and_eq_true] at hns
  refine PySem.W.callWith_KW (h₀ := X.base) I.ok.mod.kin hk (kw_all hkn) (thn (ha.run pos pins s σ H _ I h) fun us s1 ⟨vs, H1, I1, r, q⟩ => ?_) ?_ (starEach_cons hns.1)
  · refine thn (hkw.run pos pins s1 σ H1 _ I1 q) fun ws s2 ⟨zs, H2, I2, rz, q2⟩ => ⟨I2.kIn, ?_⟩
    rw [kw_map hkn]
    exact hrun pins s2 σ H2 Q us ws vs zs I2 r rz q2
  · rw [kw_any hkn, star_any (by rw [List.all_cons, hns.1, hns.2]; rfl)]; rfl
theorem pe_callG0 {x : Str} {f : Value} {tk : TA} {R' : List V → List V → Hp → VK → Prop} (hg : Gl X x) (hm : X.mg x = some f) (hk : PySem.W.keepIn X.K f = true) (hkn : kwAll kws = true) (hkw : PK X kws tk)
    (hrun : ∀ (pins : List (Addr × Obj)) (s : Shared) (σ : L2.St) (H : Hp) (Q : VK) (us ws : List Value) (vs zs : List V), Inv X pins σ H s → Vals vs us → Vals zs ws → R' vs zs H Q → wpAny (model X.prog X.w) X.A (call f us ((kwNames kws).zip ws)) (EP X pins σ Q) X.xe s)
    (hdb : (x == ("__debug__" : Str)) = false) : PE X (.Call (.Name x p) [] kws pos) (fun σ H Q => tk σ H fun zs H2 => R' [] zs H2 Q) := by
  refine ⟨fun pins s σ H Q I h => ?_⟩
  refine wpAny_Call_Name_kw (ld_glob I hg hm ?_ hdb)
  refine PySem.W.callWith_KW0 (h₀ := X.base) I.ok.mod.kin hk (kw_all hkn) ?_ ?_
  · refine thn (hkw.run pos pins s σ H _ I h) fun ws s2 ⟨zs, H2, I2, rz, q2⟩ => ⟨I2.kIn, ?_⟩
    rw [kw_map hkn]
    exact hrun pins s2 σ H2 Q [] ws [] zs I2 .nil rz q2
  · rw [kw_any hkn]; rfl
/-- the widest reading of a call -/
def rKW (X : Cx) (f : Value) (ks : List Str) (vs zs : List V) (H : Hp) (Q : VK) : Prop := ∀ (pins : List (Addr × Obj)) (s : Shared) (σ : L2.St) (us ws : List Value), Inv X pins σ H s → Vals vs us → Vals zs ws → wpAny (model X.prog X.w) X.A (call f us (ks.zip ws)) (EP X pins σ Q) X.xe s
def lenC : C → Nat | .cons _ r => lenC r + 1 | _ => 0
theorem evL_len : ∀ {as : C} {env : En} {s s' : Dr} {xs : List D}, evL P cl as env s = .ok xs s' → xs.length = lenC as
  | .cons a r, env, s, s', xs, h => by
    simp only [evL] at h
    cases e1 : ev P cl a env s with
    | ok x s1 =>
      rw [e1] at h
      simp only [R.bind_ok] at h
      cases e2 : evL P cl r env s1 with
      | ok ys s2 => rw [e2] at h; cases h; rw [List.length_cons, evL_len e2]; rfl
      | exc c ds s2 => rw [e2] at h; cases h
      | no => rw [e2] at h; cases h
    | exc c ds s1 => rw [e1] at h; cases h
    | no => rw [e1] at h; cases h
  | .nil, env, s, s', xs, h => by simp only [evL] at h; cases h; rfl
  | .nop, _, _, _, _, h => by simp only [evL] at h; cases h
  | .var _, _, _, _, _, h => by simp only [evL] at h; cases h
  | .non, _, _, _, _, h => by simp only [evL] at h; cases h
  | .bl _, _, _, _, _, h => by simp only [evL] at h; cases h
  | .int _, _, _, _, _, h => by simp only [evL] at h; cases h
  | .str _, _, _, _, _, h => by simp only [evL] at h; cases h
  | .gcon _, _, _, _, _, h => by simp only [evL] at h; cases h
  | .bin _ _ _, _, _, _, _, h => by simp only [evL] at h; cases h
  | .neg _, _, _, _, _, h => by simp only [evL] at h; cases h
  | .not _, _, _, _, _, h => by simp only [evL] at h; cases h
  | .and _ _, _, _, _, _, h => by simp only [evL] at h; cases h
  | .or _ _, _, _, _, _, h => by simp only [evL] at h; cases h
  | .ife _ _ _, _, _, _, _, h => by simp only [evL] at h; cases h
  | .cmp _ _ _, _, _, _, _, h => by simp only [evL] at h; cases h
  | .isN _, _, _, _, _, h => by simp only [evL] at h; cases h
  | .notN _, _, _, _, _, h => by simp only [evL] at h; cases h
  | .chn _ _ _ _ _, _, _, _, _, h => by simp only [evL] at h; cases h
  | .call _ _, _, _, _, _, h => by simp only [evL] at h; cases h
  | .callK _ _ _ _, _, _, _, _, h => by simp only [evL] at h; cases h
  | .make _ _, _, _, _, _, h => by simp only [evL] at h; cases h
  | .makeK _ _ _ _, _, _, _, _, h => by simp only [evL] at h; cases h
  | .blt _ _, _, _, _, _, h => by simp only [evL] at h; cases h
  | .blt2 _ _ _, _, _, _, _, h => by simp only [evL] at h; cases h
  | .isi _ _, _, _, _, _, h => by simp only [evL] at h; cases h
  | .att _ _, _, _, _, _, h => by simp only [evL] at h; cases h
  | .idx _ _, _, _, _, _, h => by simp only [evL] at h; cases h
  | .sli _ _ _, _, _, _, _, h => by simp only [evL] at h; cases h
  | .rev _, _, _, _, _, h => by simp only [evL] at h; cases h
  | .tup _, _, _, _, _, h => by simp only [evL] at h; cases h
  | .lst _, _, _, _, _, h => by simp only [evL] at h; cases h
  | .dic _ _, _, _, _, _, h => by simp only [evL] at h; cases h
  | .comp _ _ _ _ _, _, _, _, _, h => by simp only [evL] at h; cases h
  | .comp2 _ _ _ _ _ _ _, _, _, _, _, h => by simp only [evL] at h; cases h
  | .rng _ _, _, _, _, _, h => by simp only [evL] at h; cases h
  | .enm _, _, _, _, _, h => by simp only [evL] at h; cases h
  | .caught _, _, _, _, _, h => by simp only [evL] at h; cases h
/-- both forms, the arguments by results -/
theorem pe_callV {x : Str} {f : Value} {as kas : C} {r : En → Dr → R D} (hg : Gl X x) (hm : X.mg x = some f) (hk : PySem.W.keepIn X.K f = true) (hns : es.all noStar = true) (hkn : kwAll kws = true) (hnil : es = [] → as = .nil)
    (ha : PAv X G E P cl as es) (hkw : PKv X G E P cl kas kws) (kk : List D → List D → Dr → R D) (hr : ∀ env s, r env s = (evL P cl as env s).bind fun xs s => (evL P cl kas env s).bind fun ys s => kk xs ys s)
    (hrun : ∀ (B : Bar) (H : Hp) (Q : VK) (vs zs : List V) (sd : Dr) (xs ys : List D), BOk G B H → Good G sd H → DenL G B H xs vs → DenL G B H ys zs → xs.length = lenC as → ys.length = lenC kas → fin (relD G B) G E H Q (kk xs ys sd) → rKW X f (kwNames kws) vs zs H Q)
    (hdb : (x == ("__debug__" : Str)) = false) : PE X (.Call (.Name x p) es kws pos) (tR G E r) := by
  cases es with
  | nil =>
    have e0 := hnil rfl
    subst e0
    refine PE.imp (pe_callG0 (R' := rKW X f (kwNames kws)) hg hm hk hkn hkw (fun pins s σ H Q us ws vs zs I r1 r2 q => q pins s σ us ws I r1 r2) hdb) fun σ H Q ⟨B, env, s, at_, h⟩ => ?_
    rw [hr] at h
    have h : fin (relD G B) G E H Q ((evL P cl kas env s).bind fun ys s => kk [] ys s) := h
    exact ⟨B, env, s, at_, h.bind fun ys s2 zs H2 e2 x2 g2 d2 h2 => hrun B H2 Q [] zs s2 [] ys (at_.bok.ext x2 g2.dr) g2 .nil d2 rfl (evL_len e2) h2⟩
  | cons ea es =>
    refine PE.imp (pe_callG (R' := rKW X f (kwNames kws)) hg hm hk hns hkn ha hkw (fun pins s σ H Q us ws vs zs I r1 r2 q => q pins s σ us ws I r1 r2) hdb) fun σ H Q ⟨B, env, s, at_, h⟩ => ?_
    rw [hr] at h
    exact ⟨B, env, s, at_, h.bind fun xs s1 vs H1 e1 x1 g1 d1 h1 => ⟨B, env, s1, at_.ext x1 g1, h1.bind fun ys s2 zs H2 e2 x2 g2 d2 h2 =>
      hrun B H2 Q vs zs s2 xs ys ((at_.ext x1 g1).bok.ext x2 g2.dr) g2 (d1.ext x2 g1.dr (at_.ext x1 g1).bok) d2 (evL_len e1) (evL_len e2) h2⟩⟩
/-- the parameters of a full call by place are the arguments -/
theorem pickL_all {α : Type} {dfl xs : List α} {ps : List Str} : ∀ (m : Nat), m ≤ xs.length → pickL dfl xs ((List.range' (xs.length - m) m).map (pickI ps dfl.length xs.length [])) = some (xs.drop (xs.length - m))
  | 0, h => by simp [pickL]
  | m + 1, h => by
    have e1 : xs.length - (m + 1) + 1 = xs.length - m := by omega
    have ih := pickL_all (dfl := dfl) (xs := xs) (ps := ps) m (by omega)
    have hlt : xs.length - (m + 1) < xs.length := by omega
    rw [List.range'_succ, List.map_cons, e1]
    have e2 : pickI ps dfl.length xs.length [] (xs.length - (m + 1)) = some (.inl (xs.length - (m + 1))) := by unfold pickI; rw [if_pos hlt]
    rw [e2]
    simp only [pickL, pick, ih, List.getElem?_eq_getElem hlt]
    rw [List.drop_eq_getElem_cons hlt, e1]
theorem kwPutG_all {α : Type} {dfl xs : List α} {ps : List Str} (h : ps.length = xs.length) : kwPutG ps dfl xs.length [] xs = some xs := by
  unfold kwPutG
  have := pickL_all (dfl := dfl) (xs := xs) (ps := ps) xs.length (Nat.le_refl _)
  rw [Nat.sub_self, List.drop_zero] at this
  rw [h, List.range_eq_range']
  exact this
theorem fullD_kw {fi : FnI} {f n : Nat} {ks : List Str} {ds full : List D} (hfi : P.fns[f]? = some fi) (hl : ds.length = n + ks.length) (h : fullD P f n ks ds = some full) : kwPutG fi.ps fi.dfl n ks ds = some full := by
  unfold fullD at h
  rw [hfi] at h
  split at h
  · rename_i hc
    obtain ⟨rfl, hp⟩ := hc
    cases h
    have hp : fi.ps.length = n := hp
    have e : n = ds.length := by simpa using hl.symm
    subst e
    exact kwPutG_all hp
  · unfold kwPut at h
    rw [hfi] at h
    have e : ds.length - ks.length = n := by omega
    rw [← e]; exact h
/-- a def called, by its shape -/
theorem run_shape {fi : FnI} {fd : FuncData} {addr : Addr} {ks : List Str} {n f : Nat} {np : Nat} {ff : List D → Dr → R D} {B : Bar} {H : Hp} {Q : VK} {vs zs : List V} {sd : Dr} {xs ys full : List D} {gq : Bool} (hx : XOk X G P SH cl E k) (hgd : gq = true → X.A.guards = some []) (hfi : P.fns[f]? = some fi)
    (F : FnG X.prog X.w X.K X.mg X.base (L2.CX X.prog X.w) k gq addr fd fi.ps (spF G np ff)) (hnp : np = fi.ps.length) (S : Shp X.K fi fd n ks) (l1 : xs.length = n) (l2 : ys.length = ks.length)
    (bok : BOk G B H) (g : Good G sd H) (d1 : DenL G B H xs vs) (d2 : DenL G B H ys zs) (hf : fullD P f n ks (xs ++ ys) = some full) (q : fin (relD G B) G E H Q (ff full sd)) : rKW X (.ref addr) ks vs zs H Q := by
  intro pins s σ us ws I r1 r2
  obtain ⟨dvs, its, hdv, hdd, S⟩ := S
  have hk := fullD_kw hfi (by rw [List.length_append, l1, l2]) hf
  obtain ⟨fv, e1, p1⟩ := kwPutG_rel (hdd G B H hx.K).pairs (d1.append d2).pairs hk
  obtain ⟨fu, e2, p2⟩ := kwPutG_rel (Rl := RelV) hdv (Vals.append r1 r2) e1
  have lv : vs.length = n := d1.length.symm.trans l1
  have lz : zs.length = ks.length := d2.length.symm.trans l2
  have bt := S s us ws I.kIn (r1.length.symm.trans lv) (r2.length.symm.trans lz) fu e2
  refine wpAny_call (codeAny_mono (F.run X.A X.stack s H ⟨us, ks.zip ws⟩ fu fv Q E (hx.room.mono (by omega)) hgd I.env0 bt p2 ⟨by rw [kwPutG_len e1, hnp], B, full, sd, DenL.of_pairs p1, bok, g, q⟩) fun r s' hq => ?_)
  cases r with
  | error e => exact hx.passes pins σ H s e s' I hq
  | ok fl =>
    cases fl with
    | ret u => exact I.after hq
    | next => exact False.elim hq
    | brk => exact False.elim hq
    | cont => exact False.elim hq
theorem pv_callS {x : Str} {fi : FnI} {f : Nat} {as kas : C} {r : En → Dr → R D} (hx : XOk X G P SH cl E k) (hgd : fi.gd = true → X.A.guards = some []) (hfi : P.fns[f]? = some fi) (hne : fi.name ≠ Str.empty) (hn : fi.name = x) (hgl : glB X.env.scope x = true) (hnm : nmOk x = true)
    (hsh : (f, lenC as, kwNames kws) ∈ SH) (hk2 : lenC kas = (kwNames kws).length) (hns : es.all noStar = true) (hkn : kwAll kws = true) (hnil : es = [] → as = .nil) (ha : PAv X G E P cl as es) (hkw : PKv X G E P cl kas kws)
    (hr : ∀ env s, r env s = (evL P cl as env s).bind fun xs s => (evL P cl kas env s).bind fun ys s => match fullD P f (lenC as) (kwNames kws) (xs ++ ys) with | some zs => cl.call f zs s | none => .no) : PE X (.Call (.Name x p) es kws pos) (tR G E r) := by
  obtain ⟨addr, fd, hm, hk, F, S⟩ := hx.wd.fn f fi hfi hne
  subst hn
  refine pe_callV (gl_of hgl) hm hk hns hkn hnil ha hkw _ hr (fun B H Q vs zs sd xs ys bok g d1 d2 l1 l2 q => ?_) (nmOk_1 hnm)
  split at q
  · rename_i full hf
    exact run_shape hx hgd hfi F rfl (S _ _ hsh) l1 (l2.trans hk2) bok g d1 d2 hf q
  · exact q.elim
theorem pv_call {x : Str} {fi : FnI} {f : Nat} {as : C} (hx : XOk X G P SH cl E k) (hgd : fi.gd = true → X.A.guards = some []) (hfi : P.fns[f]? = some fi) (hne : fi.name ≠ Str.empty) (hn : fi.name = x) (hgl : glB X.env.scope x = true) (hnm : nmOk x = true)
    (hsh : (f, lenC as, []) ∈ SH) (har : fi.ps.length = lenC as) (hns : es.all noStar = true) (hnil : es = [] → as = .nil) (ha : PAv X G E P cl as es) : PEv X G E P cl (.call f as) (.Call (.Name x p) es [] pos) := by
  refine pv_callS (kas := .nil) hx hgd hfi hne hn hgl hnm hsh rfl hns rfl hnil ha pkv_nil fun env s => ?_
  simp only [ev, evL, R.bind_ok]
  cases e1 : evL P cl as env s with
  | ok xs s1 =>
    simp only [R.bind_ok, List.append_nil]
    unfold fullD
    rw [if_pos ⟨rfl, by rw [hfi]; exact har⟩]
  | exc c ds s1 => rfl
  | no => rfl
theorem pv_callK {x : Str} {fi : FnI} {f : Nat} {ks : List Str} {as kas : C} (hx : XOk X G P SH cl E k) (hgd : fi.gd = true → X.A.guards = some []) (hfi : P.fns[f]? = some fi) (hne : fi.name ≠ Str.empty) (hn : fi.name = x) (hgl : glB X.env.scope x = true) (hnm : nmOk x = true)
    (hks : kwNames kws = ks) (hsh : (f, lenC as, ks) ∈ SH) (hk2 : lenC kas = ks.length) (har : ¬ (ks = [] ∧ fi.ps.length = lenC as)) (hns : es.all noStar = true) (hkn : kwAll kws = true) (hnil : es = [] → as = .nil) (ha : PAv X G E P cl as es) (hkw : PKv X G E P cl kas kws) :
    PEv X G E P cl (.callK f ks as kas) (.Call (.Name x p) es kws pos) := by
  subst hks
  refine pv_callS hx hgd hfi hne hn hgl hnm hsh hk2 hns hkn hnil ha hkw fun env s => ?_
  have e : ∀ zs, fullD P f (lenC as) (kwNames kws) zs = kwPut P f (kwNames kws) zs := fun zs => by
    unfold fullD
    rw [if_neg (by rw [hfi]; exact har)]
  simp only [ev]
  cases evL P cl as env s with
  | ok xs s1 =>
    simp only [R.bind_ok]
    cases evL P cl kas env s1 with
    | ok ys s2 =>
      simp only [R.bind_ok, e]
      all_goals (cases kwPut P f (kwNames kws) (xs ++ ys) <;> rfl)
    | exc c ds s2 => rfl
    | no => rfl
  | exc c ds s1 => rfl
  | no => rfl
end
end Ah

/-! ## AhX -/
set_option Elab.async false
set_option linter.all false
set_option maxRecDepth 100000
set_option maxHeartbeats 2000000
/-! Ah: instances made, fields and properties read, isinstance, own ==. -/
namespace Ah
open PySem PySem.Spec PyProof.Rows L2
section
variable {X : Cx} {G : G} {E : XK} {P : Prg} {SH : Shapes} {cl : Cl} {k : Nat} {pos p : Pos} {e ea eb ec : Expr} {a b c : C} {es : List Expr} {kws : List Keyword}
theorem passN : Passes (L2.CX X.prog X.w) X (fun _ _ _ => False) := fun _ _ _ _ _ _ _ h => by
  obtain ⟨_, _, _, _, _, _, _, _, _, _, _, _, z⟩ := h
  exact z.elim
theorem run_mk {fi : FnI} {fd : FuncData} {addr : Addr} {ks : List Str} {n cc : Nat} {np : Nat} {ff : List D → Dr → R D} {B : Bar} {H : Hp} {Q : VK} {vs zs : List V} {sd : Dr} {xs ys full : List D} (hx : XOk X G P SH cl E k)
    (M : Mk X.K (G.cls cc).1 addr) (F : FnG X.prog X.w X.K X.mg X.base (L2.CX X.prog X.w) k false addr fd fi.ps (spM G np cc ff)) (hnp : np = fi.ps.length) (S : Shp X.K fi fd (n + 1) ks) (l1 : xs.length = n) (l2 : ys.length = ks.length) (hps : fi.ps ≠ [])
    (bok : BOk G B H) (g : Good G sd H) (d1 : DenL G B H xs vs) (d2 : DenL G B H ys zs) (hf : kwPutG fi.ps fi.dfl (n + 1) ks (.non :: (xs ++ ys)) = some (.non :: full)) (q : fin (relD G B) G E H Q (ff full sd))
    (hcc : ∀ ds s d s', ff ds s = .ok d s' → ∃ fs, d = .ins cc fs) : rKW X (.ref (G.cls cc).1) ks vs zs H Q := by
  intro pins s σ us ws I r1 r2
  obtain ⟨dvs, its, hdv, hdd, S⟩ := S
  have lv : vs.length = n := d1.length.symm.trans l1
  have lz : zs.length = ks.length := d2.length.symm.trans l2
  have I2 := Inv.made (C := (G.cls cc).1) I
  have nx : H (s.heap.objs.size + 1) = none := I.hok.fresh (Nat.le_succ _)
  have ndx : H s.heap.objs.size = none := I.hok.fresh (Nat.le_refl _)
  have nex : s.heap.objs.size ≠ s.heap.objs.size + 1 := Nat.ne_of_lt (Nat.lt_succ_self _)
  generalize hxx : s.heap.objs.size + 1 = x at I2 nx nex
  generalize hdx : s.heap.objs.size = dx at I2 ndx nex
  obtain ⟨H1, hH1⟩ : ∃ H1, H1 = L2.upd (L2.upd H dx (.own x)) x (.ins (G.cls cc).1 dx []) := ⟨_, rfl⟩
  rw [← hH1] at I2
  have nx1 : (L2.upd H dx (.own x)) x = none := by rw [upd_ne nex.symm]; exact nx
  have x1 : Ext G H H1 := by rw [hH1]; exact (Ext.upd ndx).trans (Ext.upd nx1)
  have g1 : Good G sd H1 := by rw [hH1]; exact (g.upd ndx).upd nx1
  have b1 : BOk G (fun a => B a ∨ a = x) H1 := ⟨fun a h => by
    rcases h with h | h
    · have z := (bok.upd (o := .own x) ndx).upd (o := .ins (G.cls cc).1 dx []) nx1
      rw [← hH1] at z
      exact z.there a h
    · exact ⟨.ins (G.cls cc).1 dx [], by rw [h, hH1, upd_same], fun _ z => nomatch z⟩, fun a h => .inl (bok.dr a h)⟩
  have hB : ∀ a, isDr G a → (fun a => B a ∨ a = x) a := fun a h => .inl (bok.dr a h)
  have dd : DenL G (fun a => B a ∨ a = x) H1 (.non :: (xs ++ ys)) (.non :: (vs ++ zs)) := .cons .non (DenL.ext0 x1 g.dr _ hB ((d1.append d2).new nx))
  obtain ⟨fv, e1, p1⟩ := kwPutG_rel (hdd G (fun a => B a ∨ a = x) H1 hx.K).pairs dd.pairs hf
  obtain ⟨fv', rfl⟩ := kwPutG_head hps e1
  have dl : DenL G (fun a => B a ∨ a = x) H1 full fv' := by
    cases p1 with
    | cons _ t => exact DenL.of_pairs t
  have e1' := kwPutG_swap (y := V.ref x) hps e1
  have r3 : Vals (V.ref x :: (vs ++ zs)) (Value.ref x :: (us ++ ws)) := .cons rfl (Vals.append r1 r2)
  obtain ⟨fu, e2, p2⟩ := kwPutG_rel (Rl := RelV) hdv r3 e1'
  have lu : (Value.ref x :: us).length = n + 1 := by rw [List.length_cons, ← r1.length, lv]
  have lw : ws.length = ks.length := r2.length.symm.trans lz
  have H1x : H1 x = some (.ins (G.cls cc).1 dx []) := by rw [hH1, upd_same]
  have nBx : ¬ B x := bok.none nx
  have exB : ∀ H', ExtB G x H1 H' → Ext G H H' := fun H' xb a o h n t => xb a o (x1 a o h n t) (ne_of_none h nx) n t
  have hq : spM G np cc ff (V.ref x :: fv') H1 (fun v H2 => v = .non ∧ Q (.ref x) H2) E := by
    refine ⟨by rw [kwPutG_len e1', hnp], (fun a => B a ∨ a = x), full, sd, x, dx, fv', rfl, .inr rfl, H1x, dl, b1, g1, ?_⟩
    cases hr : ff full sd with
    | ok d s' =>
      obtain ⟨fs, rfl⟩ := hcc _ _ _ _ hr
      rw [hr] at q
      refine ⟨rfl, fun vsf H' xb g' h1 h2 h3 => ⟨rfl, ?_⟩⟩
      exact q (.ref x) H' (exB H' xb) g' (.ins nBx h1 h2 (h3.mono fun b hb => .inl hb))
    | exc c ds s' =>
      rw [hr] at q
      exact fun cls d H' xb g' ix => q cls d H' (exB H' xb) g' ix
    | no => rw [hr] at q; exact q
  have hr1 : Room (k + 1) X.A := hx.room.mono (by omega)
  subst hdx
  subst hxx
  have bt := S { s with heap := (s.heap.push W.emptyDict).push (W.instObj (G.cls cc).1 s.heap.objs.size) } (Value.ref (s.heap.objs.size + 1) :: us) ws I2.kIn lu lw fu e2
  refine wpAny_call (make_map (f := addr) I.kIn M.makes M.init (beq_iff_eq.mp M.fn) (codeAny_mono (F.run _ X.stack _ _ ⟨Value.ref (s.heap.objs.size + 1) :: us, ks.zip ws⟩ fu _ _ E (hr1.make (G.cls cc).1 us (ks.zip ws)) (fun z => nomatch z)
    (I2.env0.make (G.cls cc).1 us (ks.zip ws)) bt p2 hq) fun r s' hq' => ?_))
  cases r with
  | error e => exact hx.passes pins σ _ _ e s' I2 hq'
  | ok fl =>
    cases fl with
    | ret u =>
      obtain ⟨v, H', I3, rv, ev, q3⟩ := I2.after hq'
      subst ev
      exact ⟨rv, ⟨V.ref (s.heap.objs.size + 1), H', I3, rfl, q3⟩⟩
    | next => exact False.elim hq'
    | brk => exact False.elim hq'
    | cont => exact False.elim hq'
theorem pv_makeS {x : Str} {ci : ClI} {fi : FnI} {c : Nat} {as kas : C} {r : En → Dr → R D} (hx : XOk X G P SH cl E k) (hci : P.cls[c]? = some ci) (hfi : P.fns[ci.init]? = some fi) (hn : ci.name = x) (hgl : glB X.env.scope x = true) (hnm : nmOk x = true) (hps : fi.ps ≠ [])
    (hsh : (ci.init, lenC as + 1, kwNames kws) ∈ SH) (hk2 : lenC kas = (kwNames kws).length) (hns : es.all noStar = true) (hkn : kwAll kws = true) (hnil : es = [] → as = .nil) (ha : PAv X G E P cl as es) (hkw : PKv X G E P cl kas kws)
    (hr : ∀ env s, r env s = (evL P cl as env s).bind fun xs s => (evL P cl kas env s).bind fun ys s => match kwPutG fi.ps fi.dfl (xs.length + 1) (kwNames kws) (.non :: (xs ++ ys)) with | some (_ :: zs) => cl.make c zs s | _ => .no) : PE X (.Call (.Name x p) es kws pos) (tR G E r) := by
  obtain ⟨fi', addr, fd, hfi', hm, hfl, hfn, hC, M, F, S, _⟩ := hx.wd.cls c ci hci
  rw [hfi] at hfi'
  cases hfi'
  subst hn
  refine pe_callV (gl_of hgl) hm M.kp hns hkn hnil ha hkw _ hr (fun B H Q vs zs sd xs ys bok g d1 d2 l1 l2 q => ?_) (nmOk_1 hnm)
  split at q
  · rename_i z0 full hf
    obtain ⟨r', e⟩ := kwPutG_head hps hf
    cases e
    rw [l1] at hf
    exact run_mk hx M F rfl (S _ _ hsh) l1 (l2.trans hk2) hps bok g d1 d2 hf q (hx.wd.mkI c)
  · exact q.elim
theorem pv_make {x : Str} {ci : ClI} {fi : FnI} {c : Nat} {as : C} (hx : XOk X G P SH cl E k) (hci : P.cls[c]? = some ci) (hfi : P.fns[ci.init]? = some fi) (hn : ci.name = x) (hgl : glB X.env.scope x = true) (hnm : nmOk x = true)
    (hsh : (ci.init, lenC as + 1, []) ∈ SH) (har : fi.ps.length = lenC as + 1) (hns : es.all noStar = true) (hnil : es = [] → as = .nil) (ha : PAv X G E P cl as es) : PEv X G E P cl (.make c as) (.Call (.Name x p) es [] pos) := by
  refine pv_makeS (kas := .nil) hx hci hfi hn hgl hnm (fun z => by rw [z] at har; cases har) hsh rfl hns rfl hnil ha pkv_nil fun env s => ?_
  simp only [ev, evL, R.bind_ok]
  cases e1 : evL P cl as env s with
  | ok xs s1 =>
    simp only [R.bind_ok, List.append_nil]
    have e : kwPutG fi.ps fi.dfl (D.non :: xs).length [] (D.non :: xs) = some (D.non :: xs) := kwPutG_all (by rw [har, List.length_cons, evL_len e1])
    rw [List.length_cons] at e
    show _ = (match kwPutG fi.ps fi.dfl (xs.length + 1) [] (D.non :: xs) with | some (_ :: zs) => cl.make c zs s1 | _ => R.no)
    rw [e]
  | exc c ds s1 => rfl
  | no => rfl
theorem pv_makeK {x : Str} {ci : ClI} {fi : FnI} {c : Nat} {ks : List Str} {as kas : C} (hx : XOk X G P SH cl E k) (hci : P.cls[c]? = some ci) (hfi : P.fns[ci.init]? = some fi) (hn : ci.name = x) (hgl : glB X.env.scope x = true) (hnm : nmOk x = true) (hps : fi.ps ≠ [])
    (hks : kwNames kws = ks) (hsh : (ci.init, lenC as + 1, ks) ∈ SH) (hk2 : lenC kas = ks.length) (hns : es.all noStar = true) (hkn : kwAll kws = true) (hnil : es = [] → as = .nil) (ha : PAv X G E P cl as es) (hkw : PKv X G E P cl kas kws) :
    PEv X G E P cl (.makeK c ks as kas) (.Call (.Name x p) es kws pos) := by
  subst hks
  refine pv_makeS hx hci hfi hn hgl hnm hps hsh hk2 hns hkn hnil ha hkw fun env s => ?_
  simp only [ev]
  cases e1 : evL P cl as env s with
  | ok xs s1 =>
    simp only [R.bind_ok]
    cases e2 : evL P cl kas env s1 with
    | ok ys s2 =>
      simp only [R.bind_ok, hci]
      unfold kwPut
      rw [hfi]
      have e3 : (D.non :: xs ++ ys).length - (kwNames kws).length = xs.length + 1 := by
        rw [List.cons_append, List.length_cons, List.length_append, evL_len e2, hk2]
        omega
      show (match kwPutG fi.ps fi.dfl ((D.non :: xs ++ ys).length - (kwNames kws).length) (kwNames kws) (D.non :: xs ++ ys) with | some (_ :: zs) => cl.make c zs s2 | _ => R.no) = _
      rw [e3]
      rfl
    | exc c ds s2 => rfl
    | no => rfl
  | exc c ds s1 => rfl
  | no => rfl

/-! ### e.f -/
def attB : Expr → Bool | .Call (.Name _ _) [] [] _ => false | _ => true
theorem att_base {e : Expr} {f : Str} {env : Env} {w : Sem Value} (h : attB e = true) : attributeBase e f env w = w := by
  unfold attributeBase
  split
  · cases h
  · rfl
def rAW (X : Cx) (f : Str) (x : V) (H : Hp) (Q : VK) : Prop := ∀ (pins : List (Addr × Obj)) (s : Shared) (σ : L2.St) (u : Value), Inv X pins σ H s → RelV x u → wpAny (model X.prog X.w) X.A (getAttr u f true) (EP X pins σ Q) X.xe s
theorem pe_attW {f : Str} {t : TE} (he : PE X e t) (hb : attB e = true) : PE X (.Attribute e f pos) (fun σ H Q => t σ H fun x H1 => rAW X f x H1 Q) := by
  refine ⟨fun pins s σ H Q I h => ?_⟩
  exact attr_of (att_base hb) (thn (he.run pins s σ H _ I h) fun u s1 ⟨x, H1, I1, rx, q⟩ => q pins s1 σ u I1 rx)
theorem fldAt_get {B : Bar} {H : Hp} {x : Str} : ∀ {fs : List Str} {ds : List D} {vs : List V} {d : D}, DenL G B H ds vs → fldAt x fs ds = some d → ∃ v, (fs.zip vs).lookup x = some v ∧ Den G B H d v
  | [], _, _, _, _, h => by cases h
  | f :: fs, [], _, _, _, h => by cases h
  | f :: fs, d :: ds, _, _, .cons hd t, h => by
    simp only [fldAt] at h
    split at h
    · rename_i e
      cases h
      subst e
      exact ⟨_, by simp, hd⟩
    · rename_i e
      obtain ⟨v, h1, h2⟩ := fldAt_get t h
      refine ⟨v, ?_, h2⟩
      rw [List.zip_cons_cons, List.lookup_cons]
      rw [show (x == f) = false from beq_eq_false_iff_ne.mpr (Ne.symm e)]
      exact h1
theorem fldAt_mem {x : Str} : ∀ {fs : List Str} {ds : List D} {d : D}, fldAt x fs ds = some d → x ∈ fs
  | [], _, _, h => by cases h
  | f :: fs, [], _, h => by cases h
  | f :: fs, d :: ds, _, h => by
    simp only [fldAt] at h
    split at h
    · rename_i e; rw [e]; exact List.mem_cons_self
    · exact List.mem_cons_of_mem _ (fldAt_mem h)
theorem quiet_ok {α : Type} {r : R α} {a : α} {s : Dr} (h : r.quiet = .ok a s) : r = .ok a s := by
  cases r <;> first | exact h | cases h
/-- a property's getter run -/
theorem prop_okG {pins : List (Addr × Obj)} {σ : L2.St} {H : Hp} {s : Shared} {Q : VK} {b : Bool} {E' : Value → Shared → Prop} {C p g a dx : Addr} {fs : List (Str × V)} {f : Str} {fd : FuncData} {ps : List Str} {sp : Sp} {U : CXT} {m : Nat} {E0 : XK} (I : Inv X pins σ H s) (ea : H a = some (.ins C dx fs)) (c : Cls X.K C) (hp : PropOf X.K C f p g)
    (F : FnG X.prog X.w X.K X.mg X.base U m false g fd ps sp) (hr : Room (m + 1) X.A) (hb : Binds X.K fd ps []) (hx : Passes U X.nox E0) (h : sp [.ref a] H Q E0) : wpAny (model X.prog X.w) X.A (getAttr (.ref a) f b) (EP X pins σ Q) E' s := by
  obtain ⟨mA, O, _, _, _, _⟩ := ins_get I.hok ea
  obtain ⟨od, J, _⟩ := O.look
  obtain ⟨rest, hrec⟩ := hp.rec_
  have It := I.tok (s.toks + 1)
  have hcl : (PySem.W.clsIn X.K C).isSome = true := by
    obtain ⟨cd, hc, _⟩ := PySem.W.any_some c.hd
    rw [hc]; rfl
  have pl := PySem.W.plainGet_of (c.get f)
  refine PySem.W.get_bind I.kIn J pl.1 (PySem.W.findObj_data hcl hp.at_ hp.get hp.tak) pl.2 (wpAny_call (PySem.W.prop_get (s := { s with toks := s.toks + 1 }) I.kIn hrec ?_))
  refine codeAny_mono (F.run X.A.in1 X.stack { s with toks := s.toks + 1 } H ⟨[.ref a], []⟩ [.ref a] [.ref a] Q E0 hr.in1 (fun z => nomatch z) It.env0.in1 (hb _ [.ref a] It.kIn (F.len _ _ _ _ h)) (.cons rfl .nil) h) fun r s' hq => ?_
  cases r with
  | error er => exact (hx pins σ H { s with toks := s.toks + 1 } er s' (It.wish _) hq).elim
  | ok fl =>
    cases fl with
    | ret u =>
      obtain ⟨v, H', I3, rv, q3⟩ := It.after hq
      show wpAny _ _ (handedOut u) _ _ _
      rw [PySem.W.handedOut_of (handed_of rv)]
      exact wpAny_pure ⟨v, H', I3, rv, q3⟩
    | _ => exact False.elim hq
theorem att_ok {B : Bar} {H : Hp} {Q : VK} {s : Dr} {d : D} {v : V} {f : Str} (hx : XOk X G P SH cl E k) (hd : Den G B H d v) (bok : BOk G B H) (g : Good G s H) (q : fin (relD G B) G E H Q (attR P cl f d s)) : rAW X f v H Q := by
  unfold attR at q
  cases hd <;> try (exact q.elim)
  case ins a dx c ds vs hn ha hl l =>
    simp only at q
    split at q
    · rename_i ci hci
      obtain ⟨fi, addr, fd, hfi, hm, hfl, hfn, hC, M, F, S, hna, hpr, _⟩ := hx.wd.cls c ci hci
      split at q
      · rename_i y hy
        rw [← hfl] at hy hna
        obtain ⟨w, h1, h2⟩ := fldAt_get l hy
        intro pins s' σ u I rx
        cases rx
        exact getattr_ok I ha hC.cl (hna f (fldAt_mem hy)) h1 fun u' s2 I2 ru => ⟨w, H, I2, ru, fin.here q g h2⟩
      · split at q
        · rename_i pf hpf
          obtain ⟨fi2, p', g', fd', hfi2, hp, F2, hb, hl1⟩ := hpr f pf hpf
          intro pins s' σ u I rx
          cases rx
          have hd2 : Den G B H (.ins c ds) (.ref a) := .ins hn ha hl l
          refine prop_okG (E0 := fun _ _ _ => False) I ha hC.cl hp F2 (hx.room.mono (by omega)) hb (passN (X := X.nox)) ?_
          refine ⟨hl1.symm, B, [.ins c ds], s, .cons hd2 .nil, bok, g, ?_⟩
          cases hr : cl.call pf [.ins c ds] s with
          | ok z s2 => rw [hr] at q; exact q
          | exc c ds s2 => rw [hr] at q; exact q.elim
          | no => rw [hr] at q; exact q.elim
        · exact q.elim
    · exact q.elim
end
end Ah

/-! ## AhY -/
set_option Elab.async false
set_option linter.all false
set_option maxRecDepth 100000
set_option maxHeartbeats 2000000
/-! Ah: isinstance, own ==. -/
namespace Ah
open PySem PySem.Spec PyProof.Rows L2
section
variable {X : Cx} {G : G} {E : XK} {P : Prg} {SH : Shapes} {cl : Cl} {k : Nat} {pos p : Pos} {e ea eb ec : Expr} {a b c : C} {es : List Expr} {kws : List Keyword}

/-- isinstance asks an exception of ours for its class: with or without a dict of its own -/
theorem exc_class {prog : Program} {w : World} {A : Around} {E1 : Value → Shared → Prop} {s1 : Shared} {KK : PySem.W.Frag} {x C0 : Addr} {ob : Obj} {od : Option Obj} {Q1 : Option Value → Shared → Prop} (f : ExcC KK C0)
    (hin : KK.In s1.heap) (J : PySem.W.InstAt s1.heap x ob C0 od) (hq : Q1 (some (.ref C0)) { s1 with toks := s1.toks + 1 }) : wpAny (model prog w) A (getAttr? (.ref x) "__class__") Q1 E1 s1 := by
  have w0 : (PySem.W.clsIn KK C0).isSome = true := by
    obtain ⟨cd, hc, _⟩ := PySem.W.any_some f.hd
    rw [hc]; rfl
  have w1 : PySem.W.findObj KK C0 od "__class__" = some (.bind (.builtin "getset_descriptor.__get__") (.builtin "object.__class__")) := by
    cases od with
    | none => exact PySem.W.findObj_dataN w0 f.ha f.hn f.ht
    | some o => exact PySem.W.findObj_data w0 f.ha f.hn f.ht
  obtain ⟨hp, g, d, t, os⟩ := s1
  have a0 := J.type (M := model prog w)
  have a1 := PySem.W.looks_findIn (M := model prog w) hin f.hg
  have a2 := PySem.W.looks_findIn (M := model prog w) hin f.hk
  have a3 := PySem.W.looks_find (M := model prog w) hin J w1
  have sb : PySem.W.Looks (model prog w) hp (isInstance (.ref x) (.type "BaseException")) true := a0.andThen (PySem.W.looks_subIn hin f.hs)
  have n0 : (false && onTheHeap (Value.builtin "BaseException.__getattribute__")) = false := rfl
  have n2 : (Value.builtin "BaseException.__getattribute__" == Value.builtin "object.__getattribute__") = false := by decide +kernel
  have n1 : (onTheHeap (Value.ref C0) && Value.builtin "BaseException.__getattribute__" == Value.builtin "object.__getattribute__") = false := by rw [n2]; rfl
  unfold getAttr? getAttrBy? getAttrBy
  refine wpAny_bind (wpAny_mkText (wpAny_bind (wpAny_attempt (wpAny_holding (wpAny_bind (a0.at (wpAny_bind (a1.at ?_))))))))
  show wpAny _ _ (if (onTheHeap (Value.ref C0) && Value.builtin "BaseException.__getattribute__" == Value.builtin "object.__getattribute__") = true then _ else _) _ _ _
  rw [n1, if_neg Bool.false_ne_true]
  unfold getAttrByItsOwn hookBefore
  refine wpAny_bind ?_
  rw [if_pos (show onTheHeap (Value.ref C0) = true from rfl)]
  refine a2.at ?_
  refine wpAny_bind (wpAny_attempt (wpAny_holding ?_))
  unfold callGetattribute
  rw [n0, if_neg Bool.false_ne_true]
  unfold boundAndCalled
  rw [PySem.F.excAttr_ValueError.ga.bind (.ref x)]
  refine wpAny_bind (wpAny_pure ?_)
  show wpAny _ _ (call (.builtin "BaseException.__getattribute__") [.ref x, .str "__class__" t]) _ _ _
  refine wpAny_call (codeAny_call_builtin PySem.F.excAttr_ValueError.ga.plain PySem.F.entry_bexc_ga ?_)
  refine @PySem.W.check_slot (model prog w) _ _ ⟨hp, g, d, t + 1, os⟩ "BaseException.__getattribute__" "BaseException" "__getattribute__" (.ref x) [.str "__class__" t] [] _ (by decide +kernel) (by decide +kernel) sb (PySem.F.args_bexc_ga (.ref x) (.str "__class__" t)) ?_
  unfold Builtin.«object.__getattribute__»
  refine wpAny_bind (wpAny_of_eq (a := ((Value.ref x : Value), [Value.str "__class__" t])) (by first | rfl | (simp only [slotArgs]; rfl)) ?_)
  refine wpAny_bind (wpAny_pure (wpAny_bind (a0.at (wpAny_bind (a3.at ?_)))))
  show wpAny _ _ (holding [Value.builtin "object.__class__"] (call (.builtin "getset_descriptor.__get__") [.builtin "object.__class__", .ref x, .ref C0]) >>= ret) _ _ _
  refine wpAny_bind (wpAny_holding (wpAny_call (PySem.W.class_get (s := ⟨hp, g, d, t + 1, os⟩) (ox := ob) (od := od) hin J f.hm ?_)))
  refine wpAny_pure ?_
  show wpAny _ _ (handedOut (.ref C0)) _ _ _
  rw [PySem.W.handedOut_of (v := .ref C0) rfl]
  first
    | exact wpAny_pure (wpAny_pure hq)
    | exact wpAny_pure hq
    | exact wpAny_pure (wpAny_bind (wpAny_pure (wpAny_pure hq)))
theorem exc_kit {KK : PySem.W.Frag} {x C0 : Addr} {ob : Obj} {od : Option Obj} (f : ExcC KK C0) : PySem.W.KitX KK (.ref x) (.ref C0) (fun h => PySem.W.InstAt h x ob C0 od) where
  ty := fun _ _ _ J => J.type
  it := fun M h hin _ => by
    obtain ⟨cd, hc, _⟩ := PySem.W.any_some f.hd
    unfold PySem.W.clsIn at hc
    split at hc
    · rename_i c1 c2 c3 c4 hl
      intro A1 Q1 E1 s1 kp q1
      unfold isType loadHead
      exact wpAny_bind (wpAny_loadPart (kp _ _ (hin _ _ hl)) (wpAny_pure q1))
    · cases hc
  ne := (PySem.W.handS_kitx_exc (ox := ob) (x := x) f.hg f.hk f.hs f.hd f.ha f.hn f.ht f.hm).ne
  ca := fun hin J q => exc_class f hin J q
theorem ty_kit {B : Bar} {H : Hp} {d : D} {v : V} {t : Ty} {pins : List (Addr × Obj)} {s : Shared} {σ : L2.St} {u : Value} (hx : XOk X G P SH cl E k) (I : Inv X pins σ H s) (rx : RelV v u) (hd : Den G B H d v) (ht : d.ty = some t) :
    ∃ Pr : Heap → Prop, PySem.W.KitX X.K u (tyV G t) Pr ∧ Pr s.heap ∧ u ≠ .builtin "__main__.__loader__#opaque" := by
  cases hd <;> simp only [D.ty] at ht <;> cases ht
  case non => exact kit_of I rx (.base .non)
  case bl => exact kit_of I rx (.base (.bl _))
  case int => exact kit_of I rx (.base (.int _))
  case str => exact kit_of I rx (.base (.str _))
  case tup a ds vs h1 h2 h3 =>
    rcases h1 with (h1 | ⟨o, h1⟩) | ⟨o, its, n, h1, hc, _⟩
    · exact kit_of I rx (.base (.tup h1))
    · exact kit_of I rx (.fTuple h1)
    · exact kit_of I rx (.kTuple (hx.K ▸ h1) hc)
  case lst a ds vs h0 h1 h2 h3 => exact kit_of I rx (.base (.lst h1))
  case dct a ks ds kvs h0 h1 h2 h3 h4 => exact kit_of I rx (.base (.dK h1))
  case ins a dx c ds vs h0 h1 h2 h3 =>
    have f := hx.wd.clf c
    exact kit_of I rx (.base (.ins h1 f.cl f.ha f.hn f.htk f.hm))
  case exc a d c ds h1 h2 =>
    have f := hx.wd.excs c
    cases rx
    obtain ⟨⟨oe, vs, hget, hz, hv⟩, _⟩ := I.hok a _ h1
    obtain ⟨oc, od, oda, osl⟩ := oe
    obtain ⟨z1, z2⟩ := hz
    dsimp only at z1 z2 hv
    subst z1 z2 hv
    rcases h2 with ⟨_, _, h⟩ | ⟨x, xs, h, _, _, _, hxd⟩
    · subst h
      exact ⟨_, exc_kit (ob := ⟨_, none, .fields vs, osl⟩) (od := none) f, ⟨hget, rfl, rfl, trivial⟩, fun z => nomatch z⟩
    · subst h
      obtain ⟨mA, ⟨o2, es, ep, hg2, _⟩, _⟩ := I.hok x _ hxd
      exact ⟨_, exc_kit (ob := ⟨_, some x, .fields vs, osl⟩) (od := some o2) f, ⟨hget, rfl, rfl, hg2⟩, fun z => nomatch z⟩
/-- a class's value -/
def tyVv (G : Ah.G) : Ty → V
  | .bi n => .ty n
  | .cls k => .ref (G.cls k).1
  | .ecl k => .ref (G.ecl k).1
theorem tyVv_cls {t : Ty} : ClsV (tyVv G t) (tyV G t) := by
  cases t
  · exact .ty _
  · exact .own _
  · exact .own _
theorem tyVv_all : ∀ ts : List Ty, Paired ClsV (ts.map (tyVv G)) (ts.map (tyV G))
  | [] => .nil
  | _ :: ts => .cons tyVv_cls (tyVv_all ts)
theorem isi1_ok {B : Bar} {H : Hp} {Q : VK} {sd : Dr} {d : D} {v : V} {t c : Ty} {b : Bool} (hx : XOk X G P SH cl E k) (hd : Den G B H d v) (g : Good G sd H) (ht : d.ty = some t) (hi : P.isi t c = some b) (q : fin (relD G B) G E H Q (.ok (.bl b) sd)) :
    rCW X (.builtin "isinstance") [v, tyVv G c] H Q := by
  intro pins s σ us I r
  obtain ⟨u1, u2, rfl, r1, r2⟩ := vals2 r
  have e2 := (tyVv_cls (G := G) (t := c)).eq r2
  subst e2
  obtain ⟨Pr, Z, p, hu⟩ := ty_kit hx I r1 hd ht
  exact PySem.W.kia_one Z I.kIn p (hx.wd.isi _ _ _ hi) hu fun tk => ⟨.bl b, H, I.tok tk, rfl, fin.here q g (.bl b)⟩
theorem isiL_kit {t : Ty} (hx : XOk X G P SH cl E k) : ∀ {ts : List Ty} {b : Bool}, isiL P t ts = some b → PySem.W.kitAny X.K (tyV G t) (ts.map (tyV G)) = some b
  | [], b, h => by cases h; rfl
  | c :: cs, b, h => by
    simp only [isiL] at h
    rw [List.map_cons]
    split at h
    · rename_i e; cases h; exact kitAny_cons (hx.wd.isi _ _ _ e) (fun z => nomatch z) fun _ => rfl
    · rename_i e; exact kitAny_cons (hx.wd.isi _ _ _ e) (fun _ => isiL_kit hx h) fun z => nomatch z
    · cases h
theorem isiT_ok {B : Bar} {H : Hp} {Q : VK} {sd : Dr} {d : D} {v : V} {t : Ty} {ts : List Ty} {tp : Addr} {b : Bool} (hx : XOk X G P SH cl E k) (hd : Den G B H d v) (g : Good G sd H) (ht : d.ty = some t) (hi : isiL P t ts = some b) (hT : H tp = some (.tup (ts.map (tyVv G)))) (q : fin (relD G B) G E H Q (.ok (.bl b) sd)) :
    rCW X (.builtin "isinstance") [v, .ref tp] H Q := by
  intro pins s σ us I r
  obtain ⟨u1, u2, rfl, r1, r2⟩ := vals2 r
  cases (show u2 = Value.ref tp from r2)
  obtain ⟨Pr, Z, p, hu⟩ := ty_kit hx I r1 hd ht
  obtain ⟨_, its, rv, o, h1, h2, n, h3⟩ := (show ObjOk X.prog X.w H s.heap tp (.tup (ts.map (tyVv G))) from I.hok tp _ hT)
  have e3 : its = ts.map (tyV G) := by
    exact ClsV.all (cs := ts.map (tyVv G)) (tyVv_all ts) rv
  subst e3
  obtain ⟨oc, od, dt, sl⟩ := o
  simp only at h2 h3
  subst h2 h3
  exact PySem.W.kia_tup Z I.kIn p h1 (isiL_kit hx hi) hu fun tk => ⟨.bl b, H, I.tok tk, rfl, fin.here q g (.bl b)⟩

/-! ### own == and != -/
section
variable {prog : Program} {w : World} {A : Around} {E1 : Value → Shared → Prop} {s : Shared} {K : PySem.W.Frag} {x C0 L f : Addr} {h0 : Heap} {m : Str → Option Value} {ox : Obj} {od : Option Obj} {b tb : Value}
theorem slot_ne : Slot "object" "__ne__" "object.__ne__" :=
  .of (owner := "object") (n := "__ne__") (by rw [typeLookup_type, builtinLookup_eq_fast]; kernel_rfl) (by decide +kernel) (by decide +kernel) (by decide +kernel)
    (by first | exact .inl (by decide +kernel) | exact .inr (by decide +kernel)) (by rw [isSubtype_type]; kernel_rfl)
/-- a != b where a's class has its own == and object's != -/
theorem ne_own {Q1 : Value → Shared → Prop} (hu : A.units + 1 < cLine) (F : Fr h0 L s.heap m) (k0 : K.In h0) (J : PySem.W.InstAt s.heap x ox C0 od) (hb : PySem.W.Looks (model prog w) s.heap (typeOf b) tb) (hn : PySem.W.notFirst K C0 tb = true)
    (hs : PySem.W.findIn K (.ref C0) "__eq__" = some (some (.ref f))) (hf : PySem.W.isFn K (.ref f) = true) (hne : PySem.W.findIn K (.ref C0) "__ne__" = some (some (.builtin "object.__ne__"))) (hob : PySem.W.subIn K (.ref C0) (.type "object") = some true)
    (h : wpAny (model prog w) A.in1 (call (.ref f) [.ref x, b]) (fun v s' => ∃ c, v = .bool c ∧ Q1 (.bool (!c)) s') E1 s) : wpAny (model prog w) A (richCompare .NotEq (.ref x) b) Q1 E1 s := by
  have hin := k0.keeps F.keep
  have sb : PySem.W.Looks (model prog w) s.heap (isInstance (.ref x) (.type "object")) true := (J.type (M := model prog w)).andThen (PySem.W.looks_subIn hin hob)
  have body : wpAny (model prog w) A (call (.builtin "object.__ne__") [.ref x, b]) (fun v s' => ∃ c, v = .bool c ∧ Q1 (.bool c) s') E1 s := by
    refine wpAny_call (codeAny_call_builtin slot_ne.plain PySem.F.cmpEntry_ne ?_)
    refine @PySem.W.check_slot (model prog w) _ _ s "object.__ne__" "object" "__ne__" (.ref x) [b] [] _ (by decide +kernel) (by decide +kernel) sb (PySem.F.cmpArgs_ne (.ref x) b) ?_
    unfold Builtin.«object.__ne__»
    refine wpAny_bind (wpAny_of_eq (a := ((Value.ref x : Value), [b])) (by first | rfl | (simp only [slotArgs]; rfl)) ?_)
    refine wpAny_bind (wpAny_cRoomFor hu ?_)
    refine wpAny_bind (PySem.W.ifBound_K hin J hs hf (wpAny_mono h (fun v s' hv => ?_) fun _ _ e => e))
    obtain ⟨c, rfl, hq⟩ := hv
    refine wpAny_bind (wpAny_truthy_bool ?_)
    exact wpAny_pure ⟨!c, rfl, hq⟩
  have cmp1 : wpAny (model prog w) A (tryCompare (.ref x) "__ne__" b) (fun r s' => ∃ v, r = some v ∧ Q1 v s') E1 s := by
    unfold tryCompare
    simp only [callSpecialIfBound?, bindSpecialIfBound?]
    refine wpAny_bind (wpAny_holding (wpAny_bind (wpAny_bind (wpAny_bind (J.type.here ((PySem.W.looks_findIn hin hne).here ?_))))))
    simp only [slot_ne.bind]
    refine wpAny_bind (wpAny_askSetting (wpAny_ite ?_))
    have tail : wpAny (model prog w) A (call (.builtin "object.__ne__") ([.ref x] ++ [b]) >>= fun v => pure (some v)) (fun a s' => wpAny (model prog w) A (match a with | some .notImplemented | none => pure none | some v => pure (some v)) (fun r s' => ∃ v, r = some v ∧ Q1 v s') E1 s') E1 s :=
      wpAny_bind (wpAny_mono body (fun v s' hv => wpAny_pure (by obtain ⟨c, rfl, hq⟩ := hv; exact wpAny_pure ⟨_, rfl, hq⟩)) fun _ _ e => e)
    split
    · exact wpAny_bind (wpAny_pure (wpAny_pure (by exact tail)))
    · exact wpAny_tryCatch (wpAny_bind (wpAny_pure (wpAny_pure (by exact tail))))
  unfold richCompare
  simp only [oneThing_ref]
  refine wpAny_holding (wpAny_bind (wpAny_cRoomFor (by omega) ?_))
  refine wpAny_bind (J.type.here (wpAny_bind (hb.here ?_)))
  split
  · rename_i q
    have e : PySem.W.subIn K tb (.ref C0) = some false := by
      rcases Bool.or_eq_true_iff.mp hn with e | e
      · rw [beq_iff_eq.mp e] at q; simp at q
      · exact beq_iff_eq.mp e
    refine wpAny_bind ((PySem.W.looks_subIn hin e).here ?_)
    simp only [Bool.false_eq_true, if_false]
    refine wpAny_bind (wpAny_mono cmp1 (fun r s' z => ?_) fun _ _ e => e)
    obtain ⟨v, rfl, hq⟩ := z
    exact wpAny_pure hq
  · refine wpAny_bind (wpAny_pure ?_)
    simp only [Bool.false_eq_true, if_false]
    refine wpAny_bind (wpAny_mono cmp1 (fun r s' z => ?_) fun _ _ e => e)
    obtain ⟨v, rfl, hq⟩ := z
    exact wpAny_pure hq
end
/-- an instance compared by its own == -/
theorem run_eq {B : Bar} {H : Hp} {Q : VK} {sd : Dr} {fi : FnI} {g0 : Addr} {fd : FuncData} {f : Nat} {dx dy : D} {vx vy : V} {A : Around} {pins : List (Addr × Obj)} {s : Shared} {σ : L2.St} {u1 u2 : Value} (hx : XOk X G P SH cl E k)
    (F : FnG X.prog X.w X.K X.mg X.base (L2.CX X.prog X.w) k false g0 fd fi.ps (spF G fi.ps.length (cl.call f))) (hb : Binds X.K fd fi.ps []) (h2 : fi.ps.length = 2) (hr : Room k A) (hA : A.frames = X.A.frames) (I : Inv X pins σ H s) (r1 : RelV vx u1) (r2 : RelV vy u2)
    (d1 : Den G B H dx vx) (d2 : Den G B H dy vy) (bok : BOk G B H) (g : Good G sd H) (q : fin (relD G B) G E H Q (cl.call f [dx, dy] sd)) : wpAny (model X.prog X.w) A (call (.ref g0) [u1, u2]) (EP X pins σ Q) X.xe s := by
  have e0 : Env0 X.prog X.w X.K X.mg X.base A X.stack s H := by
    have e := I.env0
    exact ⟨by rw [hA]; exact e.frames, e.mod, e.bs, e.bsz, e.funs, e.frf, e.hok, e.bare⟩
  have rr : Vals [vx, vy] [u1, u2] := .cons r1 (.cons r2 .nil)
  have bt := hb s [u1, u2] I.kIn (by rw [h2]; rfl)
  rw [List.append_nil] at bt
  refine wpAny_call (codeAny_mono (F.run A X.stack s H ⟨[u1, u2], []⟩ [u1, u2] [vx, vy] Q E hr (fun z => nomatch z) e0 bt rr ⟨by rw [h2]; rfl, B, [dx, dy], sd, .cons d1 (.cons d2 .nil), bok, g, q⟩) fun r s' hq => ?_)
  cases r with
  | error er => exact hx.passes pins σ H s er s' I hq
  | ok fl =>
    cases fl with
    | ret w => exact I.after hq
    | next => exact hq.elim
    | brk => exact hq.elim
    | cont => exact hq.elim
theorem ins_cmp0 (hx : XOk X G P SH cl E k) (op : CmpOp) (B : Bar) (H : Hp) (Q : VK) (s : Dr) (c : Nat) (ds : List D) (y : D) (vx vy : V) (d1 : Den G B H (.ins c ds) vx) (d2 : Den G B H y vy) (bok : BOk G B H) (g : Good G s H) (q : fin (relD G B) G E H Q (cmpR P cl op (.ins c ds) y s)) : rW X (compareOp op) vx vy H Q := by
  unfold cmpR at q
  simp only at q
  split at q
  · rename_i ci hci
    obtain ⟨_, _, _, _, _, _, _, hC, _, _, _, _, _, heq, hnf⟩ := hx.wd.cls c ci hci
    have dd1 := d1
    cases d1 with
    | ins n0 e0 l0 dl =>
      split at q
      · rename_i f t hf ht
        obtain ⟨fi, g0, fd, hfi, hs, hfn, F, hb, h2, _⟩ := heq f hf
        intro pins s' σ v u I r1 r2
        have r1' := r1
        cases r1
        obtain ⟨mA, O, _⟩ := ins_get I.hok e0
        obtain ⟨od, J, _⟩ := O.look
        obtain ⟨m, hF⟩ := I.fr
        obtain ⟨Pr, Z, pz, _⟩ := ty_kit hx I r2 d2 ht
        show wpAny (model X.prog X.w) X.A (richCompare .Eq _ u) (EP X pins σ Q) X.xe s'
        refine PySem.W.cmp_K (op := .Eq) (tb := tyV G t) (by have := hx.hu; omega) hF I.ok.mod.kin J (Z.ty _ _ I.kIn pz) (hnf t (ty_in (by assumption))) hs hfn ?_
        refine wpAny_mono (run_eq (Q := fun v H' => ∃ b, v = .bl b ∧ Q v H') hx F hb h2 (hx.room.mono (by omega)) rfl I r1' r2 dd1 d2 bok g ?_) (fun w s2 hw => ?_) fun _ _ e => e
        · refine q.bind fun d s3 v H3 er x3 g3 d3 q3 => ?_
          split at q3
          · cases d3; exact ⟨_, rfl, fin.here q3 g3 (.bl _)⟩
          · exact q3.elim
        · obtain ⟨v, H', I', rv, b, rfl, hq⟩ := hw
          cases rv
          exact ⟨.bl b, H', I', rfl, hq⟩
      · rename_i f t hf ht
        obtain ⟨fi, g0, fd, hfi, hs, hfn, F, hb, h2, hne, hob⟩ := heq f hf
        intro pins s' σ v u I r1 r2
        have r1' := r1
        cases r1
        obtain ⟨mA, O, _⟩ := ins_get I.hok e0
        obtain ⟨od, J, _⟩ := O.look
        obtain ⟨m, hF⟩ := I.fr
        obtain ⟨Pr, Z, pz, _⟩ := ty_kit hx I r2 d2 ht
        show wpAny (model X.prog X.w) X.A (richCompare .NotEq _ u) (EP X pins σ Q) X.xe s'
        refine ne_own (tb := tyV G t) (by have := hx.hu; omega) hF I.ok.mod.kin J (Z.ty _ _ I.kIn pz) (hnf t (ty_in (by assumption))) hs hfn hne hob ?_
        refine wpAny_mono (run_eq (Q := fun v H' => ∃ b, v = .bl b ∧ Q (.bl (!b)) H') hx F hb h2 (hx.room.in1.mono (by omega)) rfl I r1' r2 dd1 d2 bok g ?_) (fun w s2 hw => ?_) fun _ _ e => e
        · refine q.bind fun d s3 v H3 er x3 g3 d3 q3 => ?_
          split at q3
          · cases d3; exact ⟨_, rfl, fin.here q3 g3 (.bl _)⟩
          · exact q3.elim
        · obtain ⟨v, H', I', rv, b, rfl, hq⟩ := hw
          cases rv
          exact ⟨b, rfl, .bl (!b), H', I', rfl, hq⟩
      · exact q.elim
  · exact q.elim
end
end Ah

/-! ## AhNe -/
set_option Elab.async false
set_option linter.all false
set_option maxRecDepth 100000
set_option maxHeartbeats 2000000
/-! Ah: != of two lists of one thing each, that are equal. -/
namespace AhN1
open PySem PySem.SeqAt
open AutoSeq1 (wpAny_loadPart')
open MeetsSeq MeetsSeq2 MeetsSeq3 SeqRoads2 GQ
section
variable {prog : Program} {w : World} {A : Around} {R : Result → Shared → Prop}
/-- a list of one thing -/
def One (h : Heap) (a : Addr) (its : Array Value) : Prop := ∃ m, h.get? a = some { cls := .type "list", data := .seq its m }
theorem loop_end {p q : Addr} {u v : Array Value} {t : Shared} {i : Nat} (hi : i = 1) (hu : u.size = 1) (hv : v.size = 1) (hp : One t.heap p u) (hq : One t.heap q v) (h : R (.ok (.ret (.bool false))) t) :
    wpAny (model prog w) A.in1 (Builtin.«list.__eq__.loop» ⟨[.ref p, .ref q, rawInt i, rawInt 3], []⟩) (FinOf prog w A R) (fun e s' => R (.error e) s') t := by
  obtain ⟨m, e1⟩ := hp
  obtain ⟨m2, e2⟩ := hq
  obtain ⟨hp, g, d, tk, os⟩ := t
  wp_walk using wpAny_loadPart' e1, wpAny_loadPart' e2
  have z1 : u[((i : Nat) : Int).toNat]? = none := by simp; omega
  have z2 : v[((i : Nat) : Int).toNat]? = none := by simp; omega
  rw [z1, z2]
  wp_walk using wpAny_loadPart' e1, wpAny_loadPart' e2
  show R (.ok (.ret (.bool (u.size != v.size)))) _
  rw [hu, hv]
  exact h
theorem loop_one {p q : Addr} {u v : Array Value} {x y : Value} {t : Shared} {i : Nat} (hi : i = 0) (hu : u.size = 1) (hv : v.size = 1) (hx : u[0]? = some x) (hy : v[0]? = some y) (hp : One t.heap p u) (hq : One t.heap q v)
    (h : wpAny (model prog w) A.in1 (eqBool x y) (fun r t' => r = true ∧ One t'.heap p u ∧ One t'.heap q v ∧ R (.ok (.ret (.bool false))) t') (fun e s' => R (.error e) s') t) :
    wpAny (model prog w) A.in1 (Builtin.«list.__eq__.loop» ⟨[.ref p, .ref q, rawInt i, rawInt 3], []⟩) (FinOf prog w A R) (fun e s' => R (.error e) s') t := by
  obtain ⟨m, e1⟩ := hp
  obtain ⟨m2, e2⟩ := hq
  obtain ⟨hp, g, d, tk, os⟩ := t
  wp_walk using wpAny_loadPart' e1, wpAny_loadPart' e2
  have z1 : u[((i : Nat) : Int).toNat]? = some x := by subst hi; exact hx
  have z2 : v[((i : Nat) : Int).toNat]? = some y := by subst hi; exact hy
  have zi : ((i : Int) + 1) = ((i + 1 : Nat) : Int) := by omega
  rw [z1, z2]
  refine wpAny_bind (wpAny_mono h (fun r t' z => ?_) fun _ _ z => z)
  obtain ⟨hr, k1, k2, k3⟩ := z
  subst hr
  have last := loop_end (prog := prog) (w := w) (A := A) (i := i + 1) (by omega) hu hv k1 k2 k3
  obtain ⟨hp', g', d', tk', os'⟩ := t'
  wp_walk
  rw [zi]
  refine ⟨plainId_quiet plain_eq_loop _, codeAny_builtin entry_eq_loop ?_⟩
  rw [Around.under_plainId plain_eq_loop _]
  exact last
theorem ne_one {p q : Addr} {u v : Array Value} {x y : Value} {t : Shared} (hu : u.size = 1) (hv : v.size = 1) (hx : u[0]? = some x) (hy : v[0]? = some y) (hp : One t.heap p u) (hq : One t.heap q v)
    (h : wpAny (model prog w) A.in1 (eqBool x y) (fun r t' => r = true ∧ One t'.heap p u ∧ One t'.heap q v ∧ R (.ok (.ret (.bool false))) t') (fun e s' => R (.error e) s') t) :
    wpAny (model prog w) A.in1 (Builtin.«list.__ne__» ⟨[.ref p, .ref q], []⟩) (FinOf prog w A R) (fun e s' => R (.error e) s') t := by
  have go := loop_one (prog := prog) (w := w) (A := A) (i := 0) rfl hu hv hx hy hp hq h
  obtain ⟨m, e1⟩ := hp
  obtain ⟨m2, e2⟩ := hq
  obtain ⟨hp, g, d, tk, os⟩ := t
  have f3 := AutoSeq1.sub_list_list
  have hne : ¬ (u.size != v.size) = true := by simp [hu, hv]
  wp_walk using wpAny_loadPart' e1, wpAny_loadPart' e2
  refine ⟨plainId_quiet plain_eq_loop _, codeAny_builtin entry_eq_loop ?_⟩
  rw [Around.under_plainId plain_eq_loop _]
  exact go
end
theorem rc_ne {prog : Program} {w : World} {A : Around} {E : Value → Shared → Prop} {s : Shared} {p q : Addr} {x y : Value} {Q : Value → Shared → Prop} (hu : A.units < cLine) (hp : One s.heap p #[x]) (hq : One s.heap q #[y])
    (h : wpAny (model prog w) A.in1 (eqBool x y) (fun r t' => r = true ∧ One t'.heap p #[x] ∧ One t'.heap q #[y] ∧ Q (.bool false) t') E s) : wpAny (model prog w) A (richCompare .NotEq (.ref p) (.ref q)) Q E s := by
  obtain ⟨m, e1⟩ := id hp
  obtain ⟨m2, e2⟩ := id hq
  refine wpAny_richCompare_same_room (op := .NotEq) ⟨_, e1, rfl⟩ ⟨_, e2, rfl⟩ F.slot_list_ne (call_here F.slot_list_ne ⟨_, e1, rfl⟩ F.entry_list_ne (F.args_list_ne_2 _ _) ?_) hu
  exact ne_one (R := wants (fun v s' => v ≠ .notImplemented ∧ Q v s') E) rfl rfl rfl rfl hp hq (wpAny_mono h (fun r t' z => ⟨z.1, z.2.1, z.2.2.1, (fun x => nomatch x), z.2.2.2⟩) fun _ _ z => z)
end AhN1

namespace Ah
open PySem PySem.Spec PyProof.Rows L2
section
variable {X : Cx} {G : G} {E : XK} {P : Prg} {SH : Shapes} {cl : Cl} {k : Nat}
theorem ins_cmp (hx : XOk X G P SH cl E k) (op : CmpOp) (B : Bar) (H : Hp) (Q : VK) (s : Dr) (x y : D) (vx vy : V) (hi : isIns x = true) (d1 : Den G B H x vx) (d2 : Den G B H y vy) (bok : BOk G B H) (g : Good G s H) (q : fin (relD G B) G E H Q (cmpR P cl op x y s)) : rW X (compareOp op) vx vy H Q := by
  unfold isIns at hi
  split at hi
  · exact ins_cmp0 hx op B H Q s _ _ y vx vy d1 d2 bok g q
  · rename_i c ds
    unfold cmpR at q
    simp only at q
    split at q
    · rename_i c' ds'
      split at q
      · rename_i ci hci
        split at q
        · rename_i f hf
          obtain ⟨_, _, _, _, _, _, _, hC, _, _, _, _, _, heq, hnf⟩ := hx.wd.cls c ci hci
          obtain ⟨fi, g0, fd, hfi, hs, hfn, F, hb, h2, _⟩ := heq f hf
          cases hr : cl.call f [.ins c ds, .ins c' ds'] s with
          | exc cc xs s1 => rw [hr] at q; exact q.elim
          | no => rw [hr] at q; exact q.elim
          | ok z s1 =>
            rw [hr] at q
            simp only [R.quiet, R.bind_ok] at q
            split at q
            · split at q
              · rename_i e1
                subst e1
                cases d1 with
                | lst n1 l1 m1 z1 =>
                  cases d2 with
                  | lst n2 l2 m2 z2 =>
                    cases m1 with
                    | cons i1 t1 =>
                      cases t1
                      cases m2 with
                      | cons i2 t2 =>
                        cases t2
                        rename_i a1 a2 v1 v2
                        intro pins s' σ v u I r1 r2
                        cases r1
                        cases r2
                        show wpAny (model X.prog X.w) X.A (richCompare .NotEq (.ref a1) (.ref a2)) (EP X pins σ Q) X.xe s'
                        have one : ∀ {H2 : Hp} {t : Shared} {a b : Addr}, Inv X pins σ H2 t → H2 a = some (.lst [.ref b]) → AhN1.One t.heap a #[.ref b] := fun {H2 t a b} I2 e => by
                          obtain ⟨z, its, kk, r, e2⟩ := I2.hok a _ e
                          obtain ⟨w', rfl, r1⟩ := vals1 r
                          cases r1
                          exact ⟨kk, e2⟩
                        obtain ⟨zz1, its1, k1, r1, e1⟩ := I.hok a1 _ l1
                        obtain ⟨zz2, its2, k2, r2, e2⟩ := I.hok a2 _ l2
                        obtain ⟨w1, rfl, rv1⟩ := vals1 r1
                        obtain ⟨w2, rfl, rv2⟩ := vals1 r2
                        have j1 := i1
                        have j2 := i2
                        have rw2 := rv2
                        have rw1 := rv1
                        cases i1 with
                        | @ins b1 dx1 _ _ vs1 n3 e3 l3 d3 =>
                          cases i2 with
                          | @ins b2 dx2 _ _ vs2 n4 e4 l4 d4 =>
                            cases rv1
                            cases rv2
                            obtain ⟨mA, O, _⟩ := ins_get I.hok e3
                            obtain ⟨od, J, _⟩ := O.look
                            obtain ⟨m, hF⟩ := I.fr
                            refine AhN1.rc_ne (by have := hx.hu; omega) ⟨_, e1⟩ ⟨_, e2⟩ ?_
                            clear zz1 zz2
                            by_cases hab : b1 = b2
                            · subst hab
                              exact PySem.SeqAt.EqAt.same (.ref b1) _ _ _ _ ⟨rfl, ⟨_, e1⟩, ⟨_, e2⟩, .bl false, H, I, rfl, fin.here q g (.bl _)⟩
                            · refine GQ.eqBool_refG hab ?_
                              obtain ⟨Pr, Z, pz, _⟩ := ty_kit hx I rw2 j2 (t := .cls c') rfl
                              refine PySem.W.cmp_K (op := .Eq) (tb := tyV G (.cls c')) (by have := hx.room.in1.un; omega) hF I.ok.mod.kin J (Z.ty _ _ I.kIn pz) (hnf _ (ty_in (d := .ins c' ds') rfl)) hs hfn ?_
                              refine wpAny_mono (run_eq (Q := fun v H' => v = .bl true ∧ H' a1 = some (.lst [.ref b1]) ∧ H' a2 = some (.lst [.ref b2]) ∧ Q (.bl false) H') hx F hb h2 (hx.room.in1.mono (by omega)) rfl I rw1 rw2 j1 j2 bok g ?_) (fun w s2 hw => ?_) fun _ _ e => e
                              · rw [hr]
                                intro v H' x3 g3 d3
                                refine ⟨by cases d3; rfl, x3 _ _ l1 (fun z => n1 (bok.dr _ z)) (fun _ z => nomatch z), x3 _ _ l2 (fun z => n2 (bok.dr _ z)) (fun _ z => nomatch z), q _ H' x3 g3 (.bl _)⟩
                              · obtain ⟨v, H', I', rv, rfl, f1, f2, hq⟩ := hw
                                cases rv
                                exact ⟨true, rfl, rfl, one I' f1, one I' f2, .bl false, H', I', rfl, hq⟩
              · exact q.elim
            · exact q.elim
        · exact q.elim
      · exact q.elim
    · exact q.elim
  · cases hi
end
end Ah

/-! ## AhI -/
set_option Elab.async false
set_option linter.all false
set_option maxRecDepth 100000
set_option maxHeartbeats 2000000
/-! Ah: what is walked; comprehensions. -/
namespace Ah
open PySem PySem.Spec PyProof.Rows L2

/-- what nobody writes -/
structure Fix (o : HO) : Prop where
  l : ∀ us, o ≠ .lst us
  i : ∀ C dx fs, o ≠ .ins C dx fs
/-- all that stood stands, but lists and instances at barred addresses -/
def ExtX (G : G) (B : Bar) (H H' : Hp) : Prop := ∀ a o, H a = some o → ¬ isDr G a → (∀ ps, o ≠ .tbl ps) → (B a → Fix o) → H' a = some o
section
variable {G : G} {B B' : Bar} {H H' H1 H2 : Hp} {s s' : Dr}
theorem ExtX.refl : ExtX G B H H := fun _ _ h _ _ _ => h
theorem Ext.x (x : Ext G H H') : ExtX G B H H' := fun a o h n t _ => x a o h n t
theorem ExtX.trans (x : ExtX G B H H1) (y : ExtX G B H1 H2) : ExtX G B H H2 := fun a o h n t l => y a o (x a o h n t l) n t l
theorem ExtX.mono (x : ExtX G B H H1) (h : ∀ b, B b → B' b) : ExtX G B' H H1 := fun a o e n t l => x a o e n t fun hb => l (h a hb)
theorem SqT_extX {a : Addr} {xs : List V} (h : SqT G.K H a xs) (x : ExtX G B H H') (d : DrAt G s H) : SqT G.K H' a xs := by
  rcases h with r | h
  · have n := isDr_not_tup d r
    rcases r with r | ⟨u, r⟩
    · exact .inl (.inl (x _ _ r n (fun _ z => nomatch z) fun _ => ⟨fun _ z => (nomatch z), fun _ _ _ z => (nomatch z)⟩))
    · exact .inl (.inr ⟨u, x _ _ r n (fun _ z => nomatch z) fun _ => ⟨fun _ z => (nomatch z), fun _ _ _ z => (nomatch z)⟩⟩)
  · exact .inr h
theorem XFs.extX {c : Nat} {d : Option Addr} {ds : List D} (h : XFs G c d H ds) (x : ExtX G B H H') (dr : DrAt G s H) : XFs G c d H' ds := by
  rcases h with h | ⟨y, vs, e, ne, fl, l, q⟩
  · exact .inl h
  · exact .inr ⟨y, vs, e, ne, fl, l, x _ _ q (isDr_not dr q (fun _ z => nomatch z) fun _ z => nomatch z) (fun _ z => nomatch z) fun _ => ⟨fun _ z => (nomatch z), fun _ _ _ z => (nomatch z)⟩⟩
mutual
theorem Den.extX (x : ExtX G B H H') (dr : DrAt G s H) (hB : ∀ a, isDr G a → B a) : ∀ (d : D) {v : V}, Den G B H d v → Den G B H' d v
  | .non, _, .non => .non
  | .bl _, _, .bl b => .bl b
  | .int _, _, .int i => .int i
  | .str _, _, .str h => .str h
  | .tup ds, _, .tup q l z => .tup (SqT_extX q x dr) (DenL.extX x dr hB ds l) z
  | .lst ds, _, .lst n q l z => .lst n (x _ _ q (fun z => n (hB _ z)) (fun _ z => nomatch z) fun w => absurd w n) (DenL.extX x dr hB ds l) z
  | .dct ks ds, _, .dct n q e l z => .dct n (x _ _ q (fun z => n (hB _ z)) (fun _ z => nomatch z) fun w => absurd w n) e (DenL.extX x dr hB ds l) z
  | .ins c ds, _, .ins n q e l => .ins n (x _ _ q (fun z => n (hB _ z)) (fun _ z => nomatch z) fun w => absurd w n) e (DenL.extX x dr hB ds l)
  | .exc c ds, _, .exc q f => .exc (x _ _ q (isDr_not dr q (fun _ z => nomatch z) fun _ z => nomatch z) (fun _ z => nomatch z) fun _ => ⟨fun _ z => (nomatch z), fun _ _ _ z => (nomatch z)⟩) (f.extX x dr)
  | .drw, _, .drw h => .drw h
  | .scr _, _, .scr q => .scr (q.elim (fun ⟨n, r⟩ => .inl ⟨n, r.elim (fun r => .inl (x _ _ r (fun z => n (hB _ z)) (fun _ z => nomatch z) fun w => absurd w n)) fun ⟨u, r⟩ => .inr ⟨u, x _ _ r (fun z => n (hB _ z)) (fun _ z => nomatch z) fun w => absurd w n⟩⟩) .inr)
theorem DenL.extX (x : ExtX G B H H') (dr : DrAt G s H) (hB : ∀ a, isDr G a → B a) : ∀ (ds : List D) {vs : List V}, DenL G B H ds vs → DenL G B H' ds vs
  | [], _, .nil => .nil
  | d :: ds, _, .cons h t => .cons (Den.extX x dr hB d h) (DenL.extX x dr hB ds t)
end
/-- bars exchanged, time gone by -/
theorem DenL.later {ds : List D} {vs : List V} (l : DenL G B H ds vs) (hb : ∀ b, B' b → B b ∨ Nw H b) (hd : ∀ a, isDr G a → B' a) (x : ExtX G B H H') (dr : DrAt G s H) : DenL G B' H' ds vs :=
  (DenL.extX (B := fun a => B a ∨ B' a) (x.mono fun _ => .inl) dr (fun a h => .inr (hd a h)) ds (DenL.bar ds (fun b h => h.elim .inl (hb b)) l)).mono fun _ => .inr
end
/-- J walks the things xs -/
def Wk (G : G) (B : Bar) (J : It) (xs : List D) (H0 : Hp) : Prop :=
  ∀ (B' : Bar), (∀ b, B' b → B b ∨ Nw H0 b) → (∀ a, isDr G a → B' a) → ∀ (s : Dr) (i : Nat) (H : Hp), ExtX G B H0 H → Good G s H →
    (i = xs.length → J.stop i H) ∧ ∀ d, xs[i]? = some d → J.go i H ∧ ∀ x H', J.yld i H x H' → Ext G H H' ∧ Good G s H' ∧ Den G B' H' d x
abbrev relW (G : G) (B : Bar) : Hp → List D → It → Prop := fun H xs J => Wk G B J xs H
def tRI (G : G) (E : XK) (r : En → Dr → R (List D)) : TI := fun σ H R' => ∃ B env s, At G B env s σ H ∧ fin (relW G B) G E H R' (r env s)
theorem PI.imp {X : Cx} {tg e : Expr} {t t' : TI} (h : PI X tg e t) (k : ∀ σ H Q, t' σ H Q → t σ H Q) : PI X tg e t' := ⟨fun pins s σ H Q I q => h.run pins s σ H Q I (k σ H Q q)⟩
theorem PI.or {X : Cx} {tg e : Expr} {t t' : TI} (h : PI X tg e t) (h' : PI X tg e t') : PI X tg e (fun σ H Q => t σ H Q ∨ t' σ H Q) := ⟨fun pins s σ H Q I q => q.elim (h.run pins s σ H Q I) (h'.run pins s σ H Q I)⟩
section
variable {X : Cx} {G : G} {E : XK} {P : Prg} {SH : Shapes} {cl : Cl} {k : Nat} {pos p : Pos} {e ea eb ec tg : Expr} {a b c : C} {es : List Expr}
theorem wk_list {B : Bar} {H : Hp} {ad : Addr} {ds : List D} {vs : List V} {s0 : Dr} (hn : ¬ B ad) (he : H ad = some (.lst vs)) (l : DenL G B H ds vs) (bok : BOk G B H) (g0 : DrAt G s0 H) : Wk G B (Itl G.K ad) ds H := by
  intro B' hb hd s i H1 x g
  have nd : ¬ isDr G ad := fun z => hn (bok.dr _ z)
  have e1 : H1 ad = some (.lst vs) := x _ _ he nd (fun _ z => nomatch z) fun w => absurd w hn
  have l1 : DenL G B' H1 ds vs := l.later hb hd x g0
  refine ⟨fun hi => walk_list.stops H1 (.of e1) |> fun z => by rw [hi, l.length]; exact z, fun d hd' => ?_⟩
  obtain ⟨v, h1, h2⟩ := l1.get hd'
  have hlt : i < vs.length := (List.getElem?_eq_some_iff.mp h1).1
  refine ⟨walk_list.goes i H1 hlt (.of e1), fun w H2 hy => ?_⟩
  obtain ⟨rfl, h3⟩ := walk_list.yields i H1 w H2 hlt (.of e1) hy
  rw [h1] at h3
  cases h3
  exact ⟨Ext.refl, g, h2⟩
theorem ScrAt.extX {B : Bar} {H H' : Hp} {ad : Addr} {ns : List Int} {s0 : Dr} (x : ExtX G B H H') (dr : DrAt G s0 H) (hB : ∀ a, isDr G a → B a) (q : ScrAt G B H ad ns) : ScrAt G B H' ad ns := by
  have d : Den G B H (.scr ns) (.ref ad) := .scr q
  cases Den.extX x dr hB _ d with
  | scr q => exact q
theorem den_ints {B : Bar} {H : Hp} : ∀ ns : List Int, DenL G B H (ns.map D.int) (ns.map V.int)
  | [] => .nil
  | i :: ns => .cons (.int i) (den_ints ns)
theorem wk_scr {B : Bar} {H : Hp} {ad : Addr} {ns : List Int} {s0 : Dr} (q : ScrAt G B H ad ns) (bok : BOk G B H) (g0 : DrAt G s0 H) : Wk G B (Itl G.K ad) (ns.map D.int) H := by
  intro B' hb hd s i H1 x g
  have e1 : SqL G.K H1 ad (ns.map V.int) := (ScrAt.extX x g0 bok.dr q).sq
  refine ⟨fun hi => walk_list.stops H1 e1 |> fun z => by rw [hi, List.length_map]; rw [List.length_map] at z; exact z, fun d hd' => ?_⟩
  obtain ⟨v, h1, h2⟩ := (den_ints (G := G) (B := B') (H := H1) ns).get hd'
  have hlt : i < (ns.map V.int).length := (List.getElem?_eq_some_iff.mp h1).1
  refine ⟨walk_list.goes i H1 hlt e1, fun w H2 hy => ?_⟩
  obtain ⟨rfl, h3⟩ := walk_list.yields i H1 w H2 hlt e1 hy
  rw [h1] at h3
  cases h3
  exact ⟨Ext.refl, g, h2⟩
theorem wk_tup {B : Bar} {H : Hp} {ad : Addr} {ds : List D} {vs : List V} {s0 : Dr} (he : SqT G.K H ad vs) (l : DenL G B H ds vs) (g0 : DrAt G s0 H) : Wk G B (Itt G.K ad) ds H := by
  intro B' hb hd s i H1 x g
  have e1 : SqT G.K H1 ad vs := SqT_extX he x g0
  have l1 : DenL G B' H1 ds vs := l.later hb hd x g0
  refine ⟨fun hi => walk_tup.stops H1 e1 |> fun z => by rw [hi, l.length]; exact z, fun d hd' => ?_⟩
  obtain ⟨v, h1, h2⟩ := l1.get hd'
  have hlt : i < vs.length := (List.getElem?_eq_some_iff.mp h1).1
  refine ⟨walk_tup.goes i H1 hlt e1, fun w H2 hy => ?_⟩
  obtain ⟨rfl, h3⟩ := walk_tup.yields i H1 w H2 hlt e1 hy
  rw [h1] at h3
  cases h3
  exact ⟨Ext.refl, g, h2⟩
theorem wk_str {B : Bar} {H : Hp} {z : Str} (hz : sOk z = true) : Wk G B (Its z) (z.cps.toList.map fun c => D.str ⟨#[c]⟩) H := by
  intro B' hb hd s i H1 x g
  refine ⟨fun hi => walk_str.stops H1 trivial |> fun q => by rw [hi, List.length_map, Array.length_toList]; exact q, fun d hd' => ?_⟩
  rw [List.getElem?_map] at hd'
  obtain ⟨c, h1, rfl⟩ := Option.map_eq_some_iff.mp hd'
  have hlt : i < z.cps.size := by
    have := (List.getElem?_eq_some_iff.mp h1).1
    simpa using this
  refine ⟨walk_str.goes i H1 hlt trivial, fun w H2 hy => ?_⟩
  obtain ⟨rfl, c', h3, rfl⟩ := walk_str.yields i H1 w H2 hlt trivial hy
  have h3' : z.cps.toList[i]? = some c' := by simpa using h3
  rw [h1] at h3'
  cases h3'
  exact ⟨Ext.refl, g, .str (sOk_sign hz (List.mem_of_getElem? h1))⟩
theorem wk_range {B : Bar} {H : Hp} {lo : Int} {n : Nat} : Wk G B (Itr lo n) ((List.range n).map fun (k : Nat) => D.int (lo + k)) H := by
  intro B' hb hd s i H1 x g
  refine ⟨fun hi => walk_range.stops H1 trivial |> fun q => by rw [hi, List.length_map, List.length_range]; exact q, fun d hd' => ?_⟩
  rw [List.getElem?_map] at hd'
  obtain ⟨c, h1, rfl⟩ := Option.map_eq_some_iff.mp hd'
  have hlt : i < n := by
    have := (List.getElem?_eq_some_iff.mp h1).1
    simpa using this
  have hc : c = i := by
    rw [List.getElem?_range hlt] at h1
    exact (Option.some.inj h1).symm
  subst hc
  refine ⟨walk_range.goes c H1 hlt trivial, fun w H2 hy => ?_⟩
  obtain ⟨rfl, rfl⟩ := walk_range.yields c H1 w H2 hlt trivial hy
  exact ⟨Ext.refl, g, .int _⟩
theorem wk_enum {B : Bar} {H : Hp} {ad : Addr} {ds : List D} {vs : List V} {s0 : Dr} (hn : ¬ B ad) (he : H ad = some (.lst vs)) (l : DenL G B H ds vs) (bok : BOk G B H) (g0 : DrAt G s0 H) : Wk G B (Ite G.K ad) (ds.zipIdx.map fun p => D.tup [.int (p.2 : Nat), p.1]) H := by
  intro B' hb hd s i H1 x g
  have nd : ¬ isDr G ad := fun z => hn (bok.dr _ z)
  have e1 : H1 ad = some (.lst vs) := x _ _ he nd (fun _ z => nomatch z) fun w => absurd w hn
  have l1 : DenL G B' H1 ds vs := l.later hb hd x g0
  refine ⟨fun hi => walk_enum.stops H1 (.of e1) |> fun z => by rw [hi, List.length_map, List.length_zipIdx, l.length]; exact z, fun d hd' => ?_⟩
  rw [List.getElem?_map, List.getElem?_zipIdx] at hd'
  obtain ⟨q, h0, rfl⟩ := Option.map_eq_some_iff.mp hd'
  obtain ⟨d0, h0', rfl⟩ := Option.map_eq_some_iff.mp h0
  obtain ⟨v, h1, h2⟩ := l1.get h0'
  have hlt : i < vs.length := (List.getElem?_eq_some_iff.mp h1).1
  refine ⟨walk_enum.goes i H1 hlt (.of e1), fun w H2 hy => ?_⟩
  obtain ⟨T, y1, y2, rfl, hT, rfl, q1, q2⟩ := walk_enum.yields i H1 w H2 hlt (.of e1) hy
  cases q1
  have q2b : vs[i]? = some y2 := q2
  rw [h1] at q2b
  cases q2b
  refine ⟨Ext.upd hT, g.upd hT, ?_⟩
  have e2 : Den G B' (L2.upd H1 T (.tup [.int (i : Nat), v])) d0 v := Den.ext0 (Ext.upd hT) g.dr d0 hd h2
  simp only [Nat.zero_add]
  exact .tup (.of upd_same) (.cons (.int _) (.cons e2 .nil)) (by show 2 ≤ LIM; decide)
/-- a list, a tuple, a text walked -/
theorem piv_seq (hK : G.K = X.K) (h : PEv X G E P cl c e) : PI X tg e (tRI G E (evI P cl c)) := by
  refine Ah.PI.imp (Ah.PI.or (pi_list h) (Ah.PI.or (pi_tup h) (pi_str h))) fun σ H R' ⟨B, env, s, at_, q⟩ => ?_
  unfold evI at q
  cases hr : ev P cl c env s with
  | ok x s1 =>
    rw [hr] at q
    obtain ⟨xs, hi, q⟩ := fin_ofO q
    have mk : ∀ {T : V → Hp → Prop}, (∀ v H', Ext G H H' → Good G s1 H' → Den G B H' x v → T v H') → tR G E (ev P cl c) σ H T := fun {T} hT => ⟨B, env, s, at_, by rw [hr]; exact hT⟩
    cases x <;> simp only [items] at hi <;> cases hi
    · refine .inr (.inr (mk fun v H' x1 g1 d1 => ?_))
      cases d1 with
      | str hs => exact ⟨_, rfl, q _ H' x1 g1 (wk_str hs)⟩
    · refine .inr (.inl (mk fun v H' x1 g1 d1 => ?_))
      cases d1 with
      | tup e1 l z => exact ⟨_, rfl, ⟨_, hK ▸ e1⟩, q _ H' x1 g1 (hK ▸ wk_tup e1 l g1.dr)⟩
    · refine .inl (mk fun v H' x1 g1 d1 => ?_)
      cases d1 with
      | lst n e1 l z => exact ⟨_, rfl, ⟨_, .of e1⟩, q _ H' x1 g1 (hK ▸ wk_list n e1 l (at_.bok.ext x1 g1.dr) g1.dr)⟩
    · refine .inl (mk fun v H' x1 g1 d1 => ?_)
      cases d1 with
      | scr e1 => exact ⟨_, rfl, ⟨_, hK ▸ e1.sq⟩, q _ H' x1 g1 (hK ▸ wk_scr e1 (at_.bok.ext x1 g1.dr) g1.dr)⟩
  | exc c ds s1 => rw [hr] at q; exact .inl ⟨B, env, s, at_, by rw [hr]; exact q⟩
  | no => rw [hr] at q; exact q.elim
end
end Ah

/-! ## AhP -/
set_option Elab.async false
set_option linter.all false
set_option maxRecDepth 100000
set_option maxHeartbeats 2000000
/-! Ah: targets; comprehensions. -/
namespace Ah
open PySem PySem.Spec PyProof.Rows L2
section
variable {G : G} {B B' : Bar} {H H' H1 H2 : Hp} {s s' : Dr}
/-! ### a list of one's own written -/
/-- what may be written where it is barred -/
structure Wrt (o : HO) : Prop where
  t : ∀ xs, o ≠ .tup xs
  e : ∀ P, o ≠ .ext P
  x : ∀ l, o ≠ .xd l
  f : ∀ u v, o ≠ .frz u v
  b : ∀ ps, o ≠ .tbl ps
theorem Wrt.lst (us : List V) : Wrt (.lst us) := ⟨fun _ z => (nomatch z), fun _ z => (nomatch z), fun _ z => (nomatch z), fun _ _ z => (nomatch z), fun _ z => (nomatch z)⟩
theorem Wrt.ins (C dx : Addr) (fs : List (Str × V)) : Wrt (.ins C dx fs) := ⟨fun _ z => (nomatch z), fun _ z => (nomatch z), fun _ z => (nomatch z), fun _ _ z => (nomatch z), fun _ z => (nomatch z)⟩
theorem Wrt.dK (kvs : List (Key × V)) : Wrt (.dK kvs) := ⟨fun _ z => (nomatch z), fun _ z => (nomatch z), fun _ z => (nomatch z), fun _ _ z => (nomatch z), fun _ z => (nomatch z)⟩
theorem wr_ne {a D : Addr} {u o o0 : HO} (h : H a = some u) (e : H D = some o0) (n : u ≠ o0) : L2.upd H D o a = some u := by
  rw [upd_ne (fun z => by rw [z, e] at h; cases h; exact n rfl)]; exact h
theorem SqT_wr {a D : Addr} {xs : List V} {o o0 : HO} (h : SqT G.K H a xs) (e : H D = some o0) (w : Wrt o0) : SqT G.K (L2.upd H D o) a xs := by
  rcases h with r | h
  · refine .inl ?_
    rcases r with r | ⟨u, r⟩
    · exact .inl (wr_ne r e fun z => w.t _ z.symm)
    · exact .inr ⟨u, wr_ne r e fun z => w.f _ _ z.symm⟩
  · exact .inr h
theorem XFs.wr {c : Nat} {d : Option Addr} {ds : List D} {Da : Addr} {o o0 : HO} (h : XFs G c d H ds) (e : H Da = some o0) (w : Wrt o0) : XFs G c d (L2.upd H Da o) ds := by
  rcases h with h | ⟨y, vs, e1, ne, fl, l, q⟩
  · exact .inl h
  · exact .inr ⟨y, vs, e1, ne, fl, l, wr_ne q e fun z => w.x _ z.symm⟩
theorem nb_wr {a D : Addr} {u o : HO} (hb : B D) (n : ¬ B a) (h : H a = some u) : L2.upd H D o a = some u := by
  rw [upd_ne (fun w => n (by rw [w]; exact hb))]; exact h
mutual
theorem Den.wrG {Da : Addr} {o o0 : HO} (hb : B Da) (e : H Da = some o0) (w : Wrt o0) : ∀ (d : D) {v : V}, Den G B H d v → Den G B (L2.upd H Da o) d v
  | .non, _, .non => .non
  | .bl _, _, .bl b => .bl b
  | .int _, _, .int i => .int i
  | .str _, _, .str h => .str h
  | .tup ds, _, .tup q l z => .tup (SqT_wr q e w) (DenL.wrG hb e w ds l) z
  | .lst ds, _, .lst n q l z => .lst n (nb_wr hb n q) (DenL.wrG hb e w ds l) z
  | .dct ks ds, _, .dct n q e' l z => .dct n (nb_wr hb n q) e' (DenL.wrG hb e w ds l) z
  | .ins c ds, _, .ins n q e' l => .ins n (nb_wr hb n q) e' (DenL.wrG hb e w ds l)
  | .exc c ds, _, .exc q f => .exc (wr_ne q e fun z => w.e _ z.symm) (f.wr e w)
  | .drw, _, .drw h => .drw h
  | .scr _, _, .scr q => .scr (q.elim (fun ⟨n, r⟩ => .inl ⟨n, r.elim (fun r => .inl (nb_wr hb n r)) fun ⟨u, r⟩ => .inr ⟨u, nb_wr hb n r⟩⟩) .inr)
theorem DenL.wrG {Da : Addr} {o o0 : HO} (hb : B Da) (e : H Da = some o0) (w : Wrt o0) : ∀ (ds : List D) {vs : List V}, DenL G B H ds vs → DenL G B (L2.upd H Da o) ds vs
  | [], _, .nil => .nil
  | d :: ds, _, .cons h t => .cons (Den.wrG hb e w d h) (DenL.wrG hb e w ds t)
end
theorem Den.wr0 {Da : Addr} {us : List V} {o : HO} (hb : B Da) (e : H Da = some (.lst us)) (d : D) {v : V} (h : Den G B H d v) : Den G B (L2.upd H Da o) d v := Den.wrG hb e (.lst us) d h
theorem DenL.wr0 {Da : Addr} {us : List V} {o : HO} (hb : B Da) (e : H Da = some (.lst us)) (ds : List D) {vs : List V} (h : DenL G B H ds vs) : DenL G B (L2.upd H Da o) ds vs := DenL.wrG hb e (.lst us) ds h
theorem Ext.wr {D : Addr} {o : HO} (x : Ext G H1 H) (h : H1 D = none) : Ext G H1 (L2.upd H D o) := fun a u e n t => by
  rw [upd_ne (ne_of_none e h)]; exact x a u e n t
theorem DrAt.wr {D : Addr} {o : HO} (d : DrAt G s H) (n : ¬ isDr G D) : DrAt G s (L2.upd H D o) :=
  ⟨fun hl => by rw [upd_ne (fun z => n ⟨hl, .inl z.symm⟩)]; exact d.d hl, fun hl => by rw [upd_ne (fun z => n ⟨hl, .inr (.inl z.symm)⟩)]; exact d.l hl, fun hl => by rw [upd_ne (fun z => n ⟨hl, .inr (.inr z.symm)⟩)]; exact d.c hl, d.ne, d.eq⟩
theorem tabs_wrG {T : List (Addr × Str)} {D : Addr} {o o0 : HO} (t : LamX.Tabs T H) (e : H D = some o0) (w : Wrt o0) : LamX.Tabs T (L2.upd H D o) := fun p hp => by
  obtain ⟨ps, h1, h2, h3⟩ := t p hp
  refine ⟨ps, wr_ne h1 e (fun z => w.b _ z.symm), h2, fun pos cv hc => ?_⟩
  obtain ⟨c, e1, e2⟩ := h3 pos cv hc
  exact ⟨c, e1, wr_ne e2 e fun z => w.e _ z.symm⟩
theorem Good.wrG {D : Addr} {o o0 : HO} (g : Good G s H) (n : ¬ isDr G D) (e : H D = some o0) (w : Wrt o0) : Good G s (L2.upd H D o) := ⟨g.dr.wr n, tabs_wrG g.tabs e w⟩
theorem Good.wr {D : Addr} {us : List V} {o : HO} (g : Good G s H) (n : ¬ isDr G D) (e : H D = some (.lst us)) : Good G s (L2.upd H D o) := g.wrG n e (.lst us)
end
section
variable {X : Cx} {G : Ah.G} {E : XK} {P : Prg} {SH : Shapes} {cl : Cl} {k : Nat} {pos p : Pos} {e ea eb ec tg it elt : Expr} {a b c ci ce cc : C} {es : List Expr}
/-! ### targets -/
def gNames : List Nat → TGs
  | [] => gNil
  | i :: is => gCons (gName i) (gNames is)
def tgG (K : PySem.W.Frag) : Tg → TG
  | .nm i => gName i
  | .tp is => gTup K is.length (gNames is)
theorem Rel.set {B : Bar} {env : En} {σ : L2.St} {H : Hp} {i : Nat} {d : D} {v : V} (r : Rel G B env σ H) (h : Den G B H d v) : Rel G B (env.set i (some d)) (σ.set i (some v)) H := ⟨fun j d' e => by
  by_cases hj : i = j
  · subst hj
    by_cases hi : i < env.length
    · rw [List.getElem?_set_self hi] at e
      cases e
      exact ⟨v, by rw [List.getElem?_set_self (by rw [← r.len]; exact hi)], h⟩
    · rw [List.getElem?_eq_none (by rw [List.length_set]; omega)] at e
      cases e
  · rw [List.getElem?_set_ne hj] at e
    obtain ⟨w, h1, h2⟩ := r.val j d' e
    exact ⟨w, by rw [List.getElem?_set_ne hj]; exact h1, h2⟩, by rw [List.length_set, List.length_set]; exact r.len⟩
theorem wipe_set {σ : L2.St} {vs : List Nat} {i : Nat} {x : Option V} (h : i ∈ vs) : wipe (σ.set i x) vs = wipe σ vs := by
  induction vs with
  | nil => cases h
  | cons v vs ih =>
    unfold wipe
    by_cases hv : i = v
    · subst hv
      by_cases hm : i ∈ vs
      · rw [ih hm]
      · have : ∀ {l : List Nat} {τ : L2.St}, i ∉ l → wipe (τ.set i x) l = (wipe τ l).set i x := by
          intro l
          induction l with
          | nil => intro τ _; rfl
          | cons w l ihl =>
            intro τ hn
            unfold wipe
            rw [ihl (fun z => hn (List.mem_cons_of_mem _ z)), List.set_comm _ _ (fun z => hn (by rw [z]; exact List.mem_cons_self))]
        rw [this hm, List.set_set]
    · rw [ih ((List.mem_cons.mp h).resolve_left hv)]
theorem Rel.wipe {B : Bar} {env : En} {σ : L2.St} {H : Hp} (r : Rel G B env σ H) : ∀ (vs : List Nat), Rel G B (wipeE env vs) (L2.wipe σ vs) H
  | [] => r
  | v :: vs => ⟨fun j d e => by
    unfold wipeE at e
    unfold L2.wipe
    by_cases hj : v = j
    · subst hj
      by_cases hi : v < (wipeE env vs).length
      · rw [List.getElem?_set_self hi] at e; cases e
      · rw [List.getElem?_eq_none (by rw [List.length_set]; omega)] at e; cases e
    · rw [List.getElem?_set_ne hj] at e
      obtain ⟨w, h1, h2⟩ := (r.wipe vs).val j d e
      exact ⟨w, by rw [List.getElem?_set_ne hj]; exact h1, h2⟩, by unfold wipeE L2.wipe; rw [List.length_set, List.length_set]; exact (r.wipe vs).len⟩
theorem Rel.ext0 {B : Bar} {env : En} {σ : L2.St} {H H' : Hp} {s : Dr} (r : Rel G B env σ H) (x : Ext G H H') (dr : DrAt G s H) (hb : ∀ a, isDr G a → B a) : Rel G B env σ H' :=
  ⟨fun i d e => let ⟨v, h1, h2⟩ := r.val i d e; ⟨v, h1, Den.ext0 x dr d hb h2⟩, r.len⟩
theorem wipe_out1 {σ : L2.St} {i : Nat} {x : Option V} : ∀ {l : List Nat}, i ∉ l → wipe (σ.set i x) l = (wipe σ l).set i x
  | [], _ => rfl
  | w :: l, hn => by
    unfold L2.wipe
    rw [wipe_out1 (fun z => hn (List.mem_cons_of_mem _ z)), List.set_comm _ _ (fun z => hn (by rw [z]; exact List.mem_cons_self))]
theorem wipe_in {σ : L2.St} {i : Nat} : ∀ {l : List Nat}, i ∈ l → (wipe σ l).set i none = wipe σ l
  | v :: l, h => by
    unfold L2.wipe
    by_cases e : i = v
    · subst e; rw [List.set_set]
    · rw [List.set_comm _ _ (fun z => e z.symm), wipe_in ((List.mem_cons.mp h).resolve_left e)]
theorem wipe_sub {σ : L2.St} {l : List Nat} : ∀ (m : List Nat), (∀ i ∈ m, i ∈ l) → wipe (wipe σ l) m = wipe σ l
  | [], _ => rfl
  | v :: m, h => by
    show (wipe (wipe σ l) m).set v none = _
    rw [wipe_sub m (fun i hi => h i (List.mem_cons_of_mem _ hi)), wipe_in (h v List.mem_cons_self)]
theorem wipe_wipe (σ : L2.St) (l : List Nat) : wipe (wipe σ l) l = wipe σ l := wipe_sub l fun _ h => h
theorem gNames_run {B : Bar} {H : Hp} {vs : List Nat} {Q : L2.St → Hp → Prop} : ∀ (is : List Nat) {ds : List D} {xs : List V} {env : En} {σ : L2.St}, DenL G B H ds xs → ds.length = is.length → Rel G B env σ H → (∀ i ∈ is, i ∈ vs) →
    (∀ σ', Rel G B ((is.zip ds).foldl (fun e p => e.set p.1 (some p.2)) env) σ' H → L2.wipe σ' vs = L2.wipe σ vs → Q σ' H) → gNames is xs σ H Q
  | [], ds, xs, env, σ, d, hl, r, hi, q => by
    cases ds with
    | nil => cases d; exact ⟨rfl, q σ r rfl⟩
    | cons _ _ => cases hl
  | i :: is, [], xs, env, σ, d, hl, r, hi, q => by cases hl
  | i :: is, d0 :: ds, xs, env, σ, d, hl, r, hi, q => by
    cases d with
    | cons h t =>
      refine ⟨_, _, rfl, ?_⟩
      have h0 := hi i List.mem_cons_self
      refine gNames_run is t (by simpa using hl) (r.set h) (fun j hj => hi j (List.mem_cons_of_mem _ hj)) fun σ' r' hw => ?_
      exact q σ' r' (hw.trans (wipe_set h0))
theorem tgG_run {K : PySem.W.Frag} {B : Bar} {H : Hp} {vs : List Nat} {Q : L2.St → Hp → Prop} {tgt : Tg} {d : D} {v : V} {env env' : En} {σ : L2.St} (hK : G.K = K) (h : Den G B H d v) (hp : tgt.put d env = some env') (r : Rel G B env σ H) (hi : ∀ i ∈ tgt.ixs, i ∈ vs)
    (q : ∀ σ', Rel G B env' σ' H → L2.wipe σ' vs = L2.wipe σ vs → Q σ' H) : tgG K tgt v σ H Q := by
  cases tgt with
  | nm i =>
    cases hp
    have h0 := hi i List.mem_cons_self
    exact q _ (r.set h) (wipe_set h0)
  | tp is =>
    simp only [Tg.put] at hp
    split at hp
    · rename_i ds
      split at hp
      · rename_i hl
        cases hp
        cases h with
        | tup e1 l z =>
          exact ⟨_, _, rfl, hK ▸ e1, by rw [← l.length]; exact hl, gNames_run is l hl r hi q⟩
      · cases hp
    · cases hp
end
end Ah

/-! ## AhQ -/
set_option Elab.async false
set_option linter.all false
set_option maxRecDepth 100000
set_option maxHeartbeats 2000000
/-! Ah: comprehensions of one clause. -/
namespace Ah
open PySem PySem.Spec PyProof.Rows L2
/-- nothing comes out -/
abbrev E0 : XK := fun _ _ _ => False
theorem mapR_cons {α β : Type} {f : α → Dr → R (List β)} {a : α} {l : List α} {s s2 : Dr} {ys : List β} (h : mapR f (a :: l) s = .ok ys s2) : ∃ o s1 bs, f a s = .ok o s1 ∧ mapR f l s1 = .ok bs s2 ∧ ys = o ++ bs := by
  unfold mapR at h
  cases e1 : f a s with
  | ok o s1 =>
    rw [e1] at h
    simp only [R.bind_ok] at h
    cases e2 : mapR f l s1 with
    | ok bs s3 => rw [e2] at h; cases h; exact ⟨o, s1, bs, rfl, e2, rfl⟩
    | exc c ds s3 => rw [e2] at h; cases h
    | no => rw [e2] at h; cases h
  | exc c ds s1 => rw [e1] at h; cases h
  | no => rw [e1] at h; cases h
section
variable {X : Cx} {G : Ah.G} {E : XK} {P : Prg} {SH : Shapes} {cl : Cl} {k : Nat} {pos p : Pos} {e ea eb ec tg it elt : Expr} {a b c ci ce cc : C} {es : List Expr}
theorem XOk.blk (hx : XOk X G P SH cl E k) (s : Shared) (H : Hp) (scope : Scope) (cenv : Env) (fp : List Addr) : XOk (X.blk s H scope cenv fp) G P SH cl E0 k := ⟨hx.wd, hx.nd, hx.calm, hx.room, LamX.takes0⟩
/-- the tests of a clause -/
def condR (P : Prg) (cl : Cl) (cc : C) (env : En) (s : Dr) : R Bool := if isNop cc then .ok true s else evB P cl cc env s
theorem pts_nop {Y : Cx} : PTs Y [] (tRB G E0 (condR P cl .nop)) := ⟨fun pins s σ H Q I ⟨B, env, sd, at_, h⟩ => pts_nil.run pins s σ H Q I (h true H Ext.refl at_.good rfl)⟩
theorem pts_cond {Y : Cx} (hn : isNop cc = false) (h : PT Y e (tRB G E0 (evB P cl cc))) : PTs Y [e] (tRB G E0 (condR P cl cc)) := pts_one (PT.imp h fun σ H Q ⟨B, env, s, at_, q⟩ => ⟨B, env, s, at_, by unfold condR at q; rw [hn] at q; exact q⟩)
/-- one turn -/
def stepR (P : Prg) (cl : Cl) (tgt : Tg) (ce cc : C) (env0 : En) (x : D) (s : Dr) : R (List D) := match tgt.put x env0 with
  | some env => (condR P cl cc env s).bind fun b s => if b then (ev P cl ce env s).bind fun y s => .ok [y] s else .ok [] s
  | none => .no
theorem stepR_ok {tgt : Tg} {env0 : En} {x : D} {s s1 : Dr} {o : List D} (h : stepR P cl tgt ce cc env0 x s = .ok o s1) : ∃ (env : En) (b : Bool) (sc : Dr), tgt.put x env0 = some env ∧ condR P cl cc env s = .ok b sc ∧ ((b = true ∧ ∃ y, ev P cl ce env sc = .ok y s1 ∧ o = [y]) ∨ (b = false ∧ s1 = sc ∧ o = [])) := by
  unfold stepR at h
  split at h
  · rename_i env he
    cases e1 : condR P cl cc env s with
    | ok b sc =>
      rw [e1] at h
      simp only [R.bind_ok] at h
      cases b with
      | true =>
        rw [if_pos rfl] at h
        cases e2 : ev P cl ce env sc with
        | ok y s2 => rw [e2] at h; cases h; exact ⟨env, true, sc, he, e1, .inl ⟨rfl, y, e2, rfl⟩⟩
        | exc c ds s2 => rw [e2] at h; cases h
        | no => rw [e2] at h; cases h
      | false =>
        rw [if_neg Bool.false_ne_true] at h
        cases h
        exact ⟨env, false, _, he, e1, .inr ⟨rfl, rfl, rfl⟩⟩
    | exc c ds s1 => rw [e1] at h; cases h
    | no => rw [e1] at h; cases h
  · cases h
/-- a list that has been filled so far -/
structure Part (G : Ah.G) (B : Bar) (H1 : Hp) (D : Addr) (ys : List Ah.D) (s : Dr) (H : Hp) : Prop where
  ext : Ext G H1 H
  good : Good G s H
  lst : ∃ vs, H D = some (.lst vs) ∧ DenL G (fun a => B a ∨ a = D) H ys vs
theorem Part.start {B : Bar} {H1 : Hp} {D : Addr} {s : Dr} (g : Good G s H1) (hD : H1 D = none) : Part G B H1 D [] s (upd H1 D (.lst [])) := ⟨Ext.upd hD, g.upd hD, [], upd_same, .nil⟩
theorem Part.bok {B : Bar} {H1 H : Hp} {D : Addr} {ys : List Ah.D} {s : Dr} (pt : Part G B H1 D ys s H) (b : BOk G B H1) : BOk G (fun a => B a ∨ a = D) H := by
  have b1 := b.ext pt.ext pt.good.dr
  refine ⟨fun a h => ?_, fun a h => .inl (b1.dr a h)⟩
  rcases h with h | rfl
  · exact b1.there a h
  · obtain ⟨vs, e, _⟩ := pt.lst
    exact ⟨_, e, fun _ z => nomatch z⟩
theorem Part.nd {B : Bar} {H1 : Hp} {D : Addr} {s : Dr} (g : DrAt G s H1) (hD : H1 D = none) : ¬ isDr G D := fun z => by
  obtain ⟨o, e, _⟩ := g.there z
  rw [hD] at e; cases e
theorem Part.carry {B : Bar} {H1 H H' : Hp} {D : Addr} {ys : List Ah.D} {s s' : Dr} (pt : Part G B H1 D ys s H) (b : BOk G B H1) (hD : H1 D = none) (nd : ¬ isDr G D) (x : Ext G H H') (g : Good G s' H') : Part G B H1 D ys s' H' := by
  obtain ⟨vs, e, l⟩ := pt.lst
  exact ⟨pt.ext.trans x, g, vs, x D _ e nd (fun _ z => nomatch z), l.ext x pt.good.dr (pt.bok b)⟩
theorem Part.app {B : Bar} {H1 H : Hp} {D : Addr} {ys : List Ah.D} {y : Ah.D} {v : V} {s : Dr} (pt : Part G B H1 D ys s H) (hD : H1 D = none) (nd : ¬ isDr G D) (h : Den G (fun a => B a ∨ a = D) H y v) (hz : ys.length ≤ LIM) :
    ∃ acc, H D = some (.lst acc) ∧ acc.length < sizeLine ∧ Part G B H1 D (ys ++ [y]) s (upd H D (.lst (acc ++ [v]))) := by
  obtain ⟨vs, e, l⟩ := pt.lst
  refine ⟨vs, e, ?_, pt.ext.wr hD, pt.good.wr nd e, _, upd_same, ?_⟩
  · rw [← l.length]
    exact Nat.lt_of_le_of_lt hz (by decide)
  · exact DenL.wr0 (.inr rfl) e _ (l.append (.cons h .nil))
/-- what is asked of the iterator along a list that is being filled -/
def WkD (G : Ah.G) (B : Bar) (J : It) (xs : List Ah.D) (H0 : Hp) : Prop := ∀ (s : Dr) (i : Nat) (H : Hp), ExtX G B H0 H → Good G s H →
  (i = xs.length → J.stop i H) ∧ ∀ d, xs[i]? = some d → J.go i H ∧ ∀ x H', J.yld i H x H' → Ext G H H' ∧ Good G s H' ∧ Den G B H' d x
theorem WkD.of {B : Bar} {J : It} {xs : List Ah.D} {H0 : Hp} (w : Wk G B J xs H0) (b : BOk G B H0) : WkD G B J xs H0 := fun s i H x g => w B (fun _ => .inl) b.dr s i H x g
theorem WkD.start {B : Bar} {J : It} {xs : List Ah.D} {H1 : Hp} {D : Addr} {o : HO} (w : Wk G B J xs H1) (b : BOk G B H1) (hD : H1 D = none) : WkD G (fun a => B a ∨ a = D) J xs (upd H1 D o) := fun s i H x g =>
  w (fun a => B a ∨ a = D) (fun a h => h.elim .inl fun z => .inr fun o e => by rw [z, hD] at e; cases e) (fun a h => .inl (b.dr a h)) s i H (fun a u e n t l => by
    have na : a ≠ D := ne_of_none e hD
    exact x a u (by rw [upd_ne na]; exact e) n t fun h => l (h.resolve_right na)) g
/-- the turns of a comprehension -/
theorem turns {B : Bar} {H0 H1 : Hp} {J : It} {xs ys0 ys : List Ah.D} {s1 s2 : Dr} {D : Addr} {Qd : Hp → Prop} {f : Ah.D → Dr → R (List Ah.D)} {body : V → Hp → (Hp → Prop) → Prop} (bok : BOk G B H1) (hD : H1 D = none) (nd : ¬ isDr G D)
    (pt0 : Part G B H1 D ys0 s1 H0) (w : WkD G (fun a => B a ∨ a = D) J xs H0) (hm : mapR f xs s1 = .ok ys s2) (hl : (ys0 ++ ys).length ≤ LIM)
    (hb : ∀ (d : Ah.D) (x : V) (s s' : Dr) (l ys1 : List Ah.D) (H' : Hp) (Nx : Hp → Prop), f d s = .ok l s' → Part G B H1 D ys1 s H' → ExtX G (fun a => B a ∨ a = D) H0 H' → Den G (fun a => B a ∨ a = D) H' d x → (ys1 ++ l).length ≤ LIM → (∀ H'', Part G B H1 D (ys1 ++ l) s' H'' → ExtX G (fun a => B a ∨ a = D) H' H'' → Nx H'') → body x H' Nx)
    (hq : ∀ H, Part G B H1 D (ys0 ++ ys) s2 H → ExtX G (fun a => B a ∨ a = D) H0 H → Qd H) :
    ∃ W : Nat → Nat → Hp → Prop, (∃ m, W 0 m H0) ∧ ∀ i m H, W i m H →
      (J.stop i H ∧ Qd H) ∨ (J.go i H ∧ ∃ Nx : Hp → Prop, (∀ H', Nx H' → ∃ m', m' < m ∧ W (i + 1) m' H') ∧ ∀ x H', J.yld i H x H' → body x H' Nx) := by
  refine ⟨fun i m H => m = xs.length - i ∧ i ≤ xs.length ∧ ∃ si ys1 ys2, mapR f (xs.drop i) si = .ok ys2 s2 ∧ ys0 ++ ys = ys1 ++ ys2 ∧ Part G B H1 D ys1 si H ∧ ExtX G (fun a => B a ∨ a = D) H0 H, ⟨xs.length, by omega, by omega, s1, ys0, ys, hm, rfl, pt0, ExtX.refl⟩, ?_⟩
  rintro i m H ⟨rfl, hi, si, ys1, ys2, em, ey, pt, hx⟩
  rw [ey] at hl hq
  obtain ⟨w1, w2⟩ := w si i H hx pt.good
  by_cases hlt : i < xs.length
  · obtain ⟨go, w2⟩ := w2 xs[i] (by simp [hlt])
    rw [List.drop_eq_getElem_cons hlt] at em
    obtain ⟨o, s3, bs, e1, e2, rfl⟩ := mapR_cons em
    refine .inr ⟨go, fun H' => Part G B H1 D (ys1 ++ o) s3 H' ∧ ExtX G (fun a => B a ∨ a = D) H0 H', ?_, ?_⟩
    · rintro H' ⟨pt', hx'⟩
      exact ⟨xs.length - (i + 1), by omega, rfl, hlt, s3, ys1 ++ o, bs, e2, by rw [ey, List.append_assoc], pt', hx'⟩
    · intro x H' hy
      obtain ⟨x2, g2, d2⟩ := w2 x H' hy
      refine hb xs[i] x si s3 o ys1 H' _ e1 (pt.carry bok hD nd x2 g2) (hx.trans x2.x) d2 (by simp only [List.length_append] at hl ⊢; omega) fun H'' pt' hx' => ⟨pt', hx.trans (x2.x.trans hx')⟩
  · have e : i = xs.length := by omega
    subst e
    rw [List.drop_length] at em
    cases em
    exact .inl ⟨w1 rfl, hq H (by simpa using pt) hx⟩
/-- what a clause's item does -/
theorem step_body {B : Bar} {H1 H' : Hp} {D : Addr} {env0 : En} {τ : L2.St} {tgt : Tg} {vs : List Nat} {d : Ah.D} {x : V} {s s' : Dr} {l ys1 : List Ah.D} {Nx : Hp → Prop} (hK : G.K = X.K) (bok : BOk G B H1) (hD : H1 D = none) (nd : ¬ isDr G D) (hv : ∀ i ∈ tgt.ixs, i ∈ vs)
    (hw0 : wipe τ vs = τ) (e1 : stepR P cl tgt ce cc env0 d s = .ok l s') (pt : Part G B H1 D ys1 s H') (hd : Den G (fun a => B a ∨ a = D) H' d x) (r : Rel G (fun a => B a ∨ a = D) env0 τ H') (hl : (ys1 ++ l).length ≤ LIM)
    (nx : ∀ H'', Part G B H1 D (ys1 ++ l) s' H'' → ExtX G (fun a => B a ∨ a = D) H' H'' → Nx H'') :
    tgG X.K tgt x τ H' fun σ2 H2 => wipe σ2 vs = τ ∧ tRB G E0 (condR P cl cc) σ2 H2 fun b H3 =>
        if b = true then tR G E0 (ev P cl ce) σ2 H3 fun y H4 => ∃ acc, H4 D = some (.lst acc) ∧ acc.length < sizeLine ∧ Nx (upd H4 D (.lst (acc ++ [y]))) else Nx H3 := by
  obtain ⟨env, bb, sc, ep, ec, ee⟩ := stepR_ok e1
  refine tgG_run hK hd ep r hv fun σ' r' hw => ⟨hw.trans hw0, ?_⟩
  refine ⟨_, env, s, ⟨r', pt.bok bok, pt.good⟩, ?_⟩
  rw [ec]
  intro b3 H3 x3 g3 hb
  subst hb
  have pt3 := pt.carry bok hD nd x3 g3
  rcases ee with ⟨rfl, y, e3, rfl⟩ | ⟨rfl, rfl, rfl⟩
  · rw [if_pos rfl]
    refine ⟨_, env, sc, ⟨r'.ext x3 pt.good.dr (pt.bok bok), pt3.bok bok, g3⟩, ?_⟩
    rw [e3]
    intro v H4 x4 g4 d4
    have pt4 := pt3.carry bok hD nd x4 g4
    obtain ⟨acc, a1, a2, a3⟩ := pt4.app hD nd d4 (by simp at hl; omega)
    refine ⟨acc, a1, a2, nx _ a3 fun a o e n t q => ?_⟩
    have na : a ≠ D := fun z => by
      obtain ⟨vs, e', _⟩ := pt.lst
      rw [z, e'] at e
      cases e
      exact (q (.inr z)).l vs rfl
    rw [upd_ne na]
    exact x4 a o (x3 a o e n t) n t
  · rw [if_neg Bool.false_ne_true]
    exact nx _ (by simpa using pt3) x3.x
theorem Rel.extX {B : Bar} {env : En} {σ : L2.St} {H H' : Hp} {s : Dr} (r : Rel G B env σ H) (x : ExtX G B H H') (dr : DrAt G s H) (hb : ∀ a, isDr G a → B a) : Rel G B env σ H' :=
  ⟨fun i d e => let ⟨v, h1, h2⟩ := r.val i d e; ⟨v, h1, Den.extX x dr hb d h2⟩, r.len⟩
theorem R.quiet_ok {α : Type} {r : R α} {a : α} {s : Dr} (h : r.quiet = .ok a s) : r = .ok a s := by
  cases r <;> cases h <;> rfl
theorem fin_quiet {α β γ : Type} {rel : Hp → α → β → Prop} {H : Hp} {Q : β → Hp → Prop} {r : R γ} {k : γ → Dr → R α} (h : fin rel G E H Q (r.quiet.bind k)) : ∃ a s, r = .ok a s ∧ fin rel G E H Q (k a s) := by
  cases r with
  | ok a s => exact ⟨a, s, rfl, h⟩
  | exc c ds s => exact h.elim
  | no => exact h.elim
theorem fin_lim {α β γ : Type} {rel : Hp → α → β → Prop} {H : Hp} {Q : β → Hp → Prop} {l : List γ} {s : Dr} {k : List γ → Dr → R α} (h : fin rel G E H Q ((R.ok l s).lim.bind k)) : l.length ≤ LIM ∧ fin rel G E H Q (k l s) := by
  unfold R.lim at h
  simp only [R.bind_ok] at h
  split at h
  · rename_i hl; exact ⟨hl, h⟩
  · exact h.elim
theorem R.bind_assoc {α β γ : Type} (r : R α) (k : α → Dr → R β) (m : β → Dr → R γ) : (r.bind k).bind m = r.bind fun a s => (k a s).bind m := by
  cases r <;> rfl
theorem ev_comp {own : List (Str × Nat)} {tgt : Tg} {env : En} {s : Dr} : ev P cl (.comp own ce tgt ci cc) env s = (evI P cl ci env s).bind fun xs s => (mapR (stepR P cl tgt ce cc (wipeE env (own.map (·.2)))) xs s).quiet.bind fun ys s => (R.ok ys s).lim.bind fun ys s => .ok (.lst ys) s := by
  simp only [ev]
  unfold evI
  refine congrArg _ (funext fun xs => funext fun s => ?_)
  unfold R.lim
  rw [R.bind_assoc]
  rfl
theorem Part.out {B : Bar} {H1 H : Hp} {D : Addr} {ys : List Ah.D} {s : Dr} (pt : Part G B H1 D ys s H) (bok : BOk G B H1) (hD : H1 D = none) (hl : ys.length ≤ LIM) : Den G B H (.lst ys) (.ref D) := by
  obtain ⟨vs, e, l⟩ := pt.lst
  exact .lst (bok.none hD) e (l.mono fun b hb => .inl hb) hl
theorem lc_imp {own : List (Str × Nat)} {tgt : Tg} {σ : L2.St} {H : Hp} {Q : VK} (hx : XOk X G P SH cl E k) (hv : ∀ i ∈ tgt.ixs, i ∈ own.map (·.2)) (h : tR G E (ev P cl (.comp own ce tgt ci cc)) σ H Q) :
    tLc (tRI G E (evI P cl ci)) (tgG X.K tgt) (tRB G E0 (condR P cl cc)) (tR G E0 (ev P cl ce)) (own.map (·.2)) σ H Q := by
  obtain ⟨B, env, s, at_, q⟩ := h
  rw [ev_comp] at q
  refine ⟨B, env, s, at_, q.bind fun xs s1 J H1 _ x1 g1 w q1 => ?_⟩
  intro D hD
  obtain ⟨ys, s2, hm, q1⟩ := fin_quiet q1
  obtain ⟨hl, q1⟩ := fin_lim q1
  have a1 := at_.ext x1 g1
  have nd : ¬ isDr G D := Part.nd (B := B) g1.dr hD
  have r0 := a1.rel.wipe (own.map (·.2))
  refine turns a1.bok hD nd (Part.start g1 hD) (WkD.start w a1.bok hD) hm hl (fun d x s s' l ys1 H' Nx e1 pt _ hd hl' nx => ?_) fun H2 pt _ => q1 _ H2 pt.ext pt.good (pt.out a1.bok hD hl)
  exact step_body hx.K a1.bok hD nd hv (wipe_wipe ..) e1 pt hd ((r0.new hD).ext0 pt.ext g1.dr fun a h => .inl (a1.bok.dr a h)) hl' nx
theorem pv_comp {own : List (Str × Nat)} {tgt : Tg} {scope : Scope} {ifs : List Expr} (hx : XOk X G P SH cl E k) (hi : PI X tg it (tRI G E (evI P cl ci))) (ok : blkC X.N X.env.scope scope own = true) (hv : ∀ i ∈ tgt.ixs, i ∈ own.map (·.2))
    (hg : ∀ (s : Shared) (H : Hp) (C : Addr) (cl : List (Str × Addr)) (fp : List Addr), PG (X.blk s H scope (compEnvC scope cl C X.env) fp) tg (tgG X.K tgt))
    (ht : ∀ (s : Shared) (H : Hp) (C : Addr) (cls : List (Str × Addr)) (fp : List Addr), PTs (X.blk s H scope (compEnvC scope cls C X.env) fp) ifs (tRB G E0 (condR P cl cc)))
    (he : ∀ (s : Shared) (H : Hp) (C : Addr) (cls : List (Str × Addr)) (fp : List Addr), PEv (X.blk s H scope (compEnvC scope cls C X.env) fp) G E0 P cl ce elt)
    (hs : ∀ x, foldedSetIterable it X.env x = pure x) : PEv X G E P cl (.comp own ce tgt ci cc) (.ListComp elt [⟨tg, it, ifs, 0⟩] scope pos) :=
  PE.imp (pe_lc hx.calm hx.nd hi (blkOk_by ok) hg ht he hs) fun σ H Q h => lc_imp hx hv h
/-- of two clauses -/
def stepR2 (P : Prg) (cl : Cl) (tgt tgt2 : Tg) (ce ci2 cc : C) (env0 : En) (x : D) (s : Dr) : R (List D) := match tgt.put x env0 with
  | some env => (evI P cl ci2 env s).bind fun xs s => mapR (stepR P cl tgt2 ce cc (wipeE env tgt2.ixs)) xs s
  | none => .no
theorem ev_comp2 {own : List (Str × Nat)} {tgt tgt2 : Tg} {ci2 : C} {env : En} {s : Dr} : ev P cl (.comp2 own ce tgt ci tgt2 ci2 cc) env s = (evI P cl ci env s).bind fun xs s => (mapR (stepR2 P cl tgt tgt2 ce ci2 cc (wipeE env (own.map (·.2)))) xs s).quiet.bind fun ys s => (R.ok ys s).lim.bind fun ys s => .ok (.lst ys) s := by
  simp only [ev]
  unfold evI
  refine congrArg _ (funext fun xs => funext fun s => ?_)
  unfold R.lim
  rw [R.bind_assoc]
  rfl
theorem pv_comp2 {own : List (Str × Nat)} {tgt tgt2 : Tg} {ci2 : C} {tg1 it1 : Expr} {scope : Scope} {ifs1 : List Expr} (hx : XOk X G P SH cl E k) (hi : PI X tg it (tRI G E (evI P cl ci))) (ok : blkC X.N X.env.scope scope own = true) (hv : ∀ i ∈ tgt.ixs, i ∈ own.map (·.2)) (hv2 : ∀ i ∈ tgt2.ixs, i ∈ own.map (·.2))
    (hg : ∀ (s : Shared) (H : Hp) (C : Addr) (cl : List (Str × Addr)) (fp : List Addr), PG (X.blk s H scope (compEnvC scope cl C X.env) fp) tg (tgG X.K tgt))
    (hi1 : ∀ (s : Shared) (H : Hp) (C : Addr) (cls : List (Str × Addr)) (fp : List Addr), PI (X.blk s H scope (compEnvC scope cls C X.env) fp) tg1 it1 (tRI G E0 (evI P cl ci2)))
    (hg1 : ∀ (s : Shared) (H : Hp) (C : Addr) (cl : List (Str × Addr)) (fp : List Addr), PG (X.blk s H scope (compEnvC scope cl C X.env) fp) tg1 (tgG X.K tgt2))
    (ht : ∀ (s : Shared) (H : Hp) (C : Addr) (cls : List (Str × Addr)) (fp : List Addr), PTs (X.blk s H scope (compEnvC scope cls C X.env) fp) ifs1 (tRB G E0 (condR P cl cc)))
    (he : ∀ (s : Shared) (H : Hp) (C : Addr) (cls : List (Str × Addr)) (fp : List Addr), PEv (X.blk s H scope (compEnvC scope cls C X.env) fp) G E0 P cl ce elt)
    (hs : ∀ x, foldedSetIterable it X.env x = pure x) (hs1 : ∀ env x, foldedSetIterable it1 env x = pure x) : PEv X G E P cl (.comp2 own ce tgt ci tgt2 ci2 cc) (.ListComp elt [⟨tg, it, [], 0⟩, ⟨tg1, it1, ifs1, 0⟩] scope pos) := by
  refine PE.imp (pe_lc2 (vs1 := tgt2.ixs) hx.calm hx.nd hi (blkOk_by ok) hv2 hg (fun _ _ _ _ _ => pts_nil) hi1 hg1 ht he hs hs1) fun σ H Q ⟨B, env, s, at_, q⟩ => ?_
  rw [ev_comp2] at q
  refine ⟨B, env, s, at_, q.bind fun xs s1 J H1 _ x1 g1 w q1 => ?_⟩
  intro D hD
  obtain ⟨ys, s2, hm, q1⟩ := fin_quiet q1
  obtain ⟨hl, q1⟩ := fin_lim q1
  have a1 := at_.ext x1 g1
  have nd : ¬ isDr G D := Part.nd (B := B) g1.dr hD
  have r0 := a1.rel.wipe (own.map (·.2))
  refine turns a1.bok hD nd (Part.start g1 hD) (WkD.start w a1.bok hD) hm hl (fun d x s s' l ys1 H' Nx e1 pt _ hd hl' nx => ?_) fun H2 pt _ => q1 _ H2 pt.ext pt.good (pt.out a1.bok hD hl)
  -- one item of the first clause
  have e1 := e1
  unfold stepR2 at e1
  split at e1
  · rename_i env1 ep
    refine tgG_run hx.K hd ep ((r0.new hD).ext0 pt.ext g1.dr fun a h => .inl (a1.bok.dr a h)) hv fun σ' r' hw => ⟨hw.trans (wipe_wipe ..), ?_⟩
    refine (show tRI G E0 (evI P cl ci2) σ' H' _ from ?_)
    refine ⟨_, env1, s, ⟨r', pt.bok a1.bok, pt.good⟩, ?_⟩
    cases e2 : evI P cl ci2 env1 s with
    | ok xs2 s3 =>
      rw [e2] at e1
      simp only [R.bind_ok] at e1
      intro J1 H4 x4 g4 w1
      have pt4 := pt.carry a1.bok hD nd x4 g4
      have r4 := (r'.ext x4 pt.good.dr (pt.bok a1.bok)).wipe tgt2.ixs
      refine turns a1.bok hD nd pt4 (WkD.of w1 (pt4.bok a1.bok)) e1 hl' (fun d x s s' l ys1 H'' Nx1 e3 pt5 hx5 hd5 hl5 nx5 => ?_) fun H5 pt5 hx5 => nx H5 pt5 (x4.x.trans hx5)
      exact step_body hx.K a1.bok hD nd (fun _ h => h) (wipe_wipe ..) e3 pt5 hd5 (r4.extX hx5 g4.dr fun a h => .inl (a1.bok.dr a h)) hl5 nx5
    | exc c ds s3 => rw [e2] at e1; cases e1
    | no => rw [e2] at e1; cases e1
  · cases e1
end
end Ah

/-! ## AhSet -/
set_option Elab.async false
set_option linter.all false
set_option maxRecDepth 100000
/-! Ah: the set of a list or tuple of texts, any number of them. -/
namespace Ah
open PySem PySem.Spec PyProof.Rows
/-- how many unlike ones there are among the first i -/
def dups (xs : List Str) (i : Nat) : Nat := (xs.take i).eraseDups.length
theorem dups_succ (xs : List Str) (i : Nat) (h : i < xs.length) : dups xs (i + 1) = if (xs.take i).any (· == xs.getD i Str.empty) then dups xs i else dups xs i + 1 := by
  have e : xs.getD i Str.empty = xs[i] := by rw [List.getD_eq_getElem?_getD, List.getElem?_eq_getElem h]; rfl
  unfold dups
  rw [e, List.take_add_one, List.getElem?_eq_getElem h, Option.toList_some, List.eraseDups_append, List.length_append]
  by_cases hm : xs[i] ∈ xs.take i
  · rw [if_pos (show ((xs.take i).any fun x => x == xs[i]) = true from List.any_eq_true.mpr ⟨_, hm, beq_self_eq_true _⟩)]
    have : [xs[i]].removeAll (xs.take i) = [] := by simp [List.removeAll, hm]
    rw [this]; rfl
  · rw [if_neg (fun (z : ((xs.take i).any fun x => x == xs[i]) = true) => by
      obtain ⟨y, hy, ey⟩ := List.any_eq_true.mp z
      have ey := eq_of_beq ey
      rw [ey] at hy; exact hm hy)]
    have : [xs[i]].removeAll (xs.take i) = [xs[i]] := by simp [List.removeAll, hm]
    rw [this]; rfl
theorem dups_le (xs : List Str) : ∀ i, dups xs i ≤ i
  | 0 => by unfold dups; simp
  | i + 1 => by
    have ih := dups_le xs i
    by_cases h : i < xs.length
    · rw [dups_succ xs i h]; split <;> omega
    · have e : dups xs (i + 1) = dups xs i := by unfold dups; rw [List.take_of_length_le (by omega), List.take_of_length_le (by omega)]
      omega
theorem any_succ (xs : List Str) (i : Nat) (h : i < xs.length) (k : Str) : (xs.take (i + 1)).any (· == k) = ((xs.take i).any (· == k) || decide (k = xs.getD i Str.empty)) := by
  have e : xs.getD i Str.empty = xs[i] := by rw [List.getD_eq_getElem?_getD, List.getElem?_eq_getElem h]; rfl
  rw [e, List.take_add_one, List.getElem?_eq_getElem h, Option.toList_some, List.any_append]
  congr 1
  by_cases z : k = xs[i]
  · subst z; simp
  · have hb : (xs[i] == k) = false := by simpa [beq_iff_eq] using (fun w : xs[i] = k => z w.symm)
    simp [hb, z]
section
variable {prog : Program} {w : World} {A : Around} {R : Result → Shared → Prop} {I : Addr} {fp wr : List Addr} {U : Array GenState → Array GenState → Prop} {n : Nat} {P : Nat → Value → Prop} {St : Nat → Shared → Prop}
abbrev SetS (prog : Program) (w : World) (xs : List Str) (S : Addr) (i : Nat) (h : Heap) : Prop := h.SetOf (PySem.strKind prog w) S (fun k => (xs.take i).any (· == k)) (dups xs i)
theorem setS_keep {xs : List Str} {S : Addr} {i : Nat} {h h' : Heap} (a : SetS prog w xs S i h) (k : ∀ o, h.get? S = some o → h'.get? S = some o) : SetS prog w xs S i h' := by
  obtain ⟨o, es, ep, t, ho, rest⟩ := a
  exact ⟨o, es, ep, t, k o ho, rest⟩
/-- texts put into a set, one after another -/
theorem put_texts (W : WalksS prog w A.in1 I fp wr U n P St) (S : Addr) (hSf : S ∉ fp) (xs : List Str) (hsz : xs.length = n) (hb : n + 1 < scanBound) (hval : ∀ i v, P i v → ∃ t, v = .str (xs.getD i Str.empty) t) :
    ∀ (k i : Nat) (s : Shared), n - i = k → i ≤ n → St i s → SetS prog w xs S i s.heap → (∀ s', Moved (S :: wr) U s s' → SetS prog w xs S n s'.heap → R (.ok (.ret .none)) s') →
      codeAny (model prog w) A (.builtin "set.update.loop" ⟨[.ref S, .ref I], []⟩) R s := by
  have sw : S ∉ wr := fun h => hSf (W.sub _ h)
  have mo : ∀ b ∈ wr, b ∈ S :: wr := fun b hb => List.mem_cons_of_mem _ hb
  intro k
  induction k with
  | zero =>
    intro i s hk hi st hS hR
    obtain rfl : i = n := by omega
    refine codeAny_builtin PyProof.Rows.F.entry_set_update_loop ?_
    rw [Around.under_plainId PyProof.Rows.F.plain_set_update_loop _]
    show wpAny _ A.in1 (pyNext (.ref I) >>= _) _ _ s
    refine wpAny_bind (W.done s _ _ st fun s' hm => ?_)
    show wpAny _ A.in1 (ret Value.none) _ _ s'
    exact wpAny_pure (hR s' (hm.mono mo) (setS_keep hS fun o e => hm.heap S o sw e))
  | succ k ih =>
    intro i s hk hi st hS hR
    have lt : i < n := by omega
    refine codeAny_builtin PyProof.Rows.F.entry_set_update_loop ?_
    rw [Around.under_plainId PyProof.Rows.F.plain_set_update_loop _]
    show wpAny _ A.in1 (pyNext (.ref I) >>= _) _ _ s
    refine wpAny_bind (W.item i s _ _ lt st fun v s1 hv st1 m1 => ?_)
    obtain ⟨t, rfl⟩ := hval i v hv
    show wpAny _ A.in1 (holding [Value.str (xs.getD i Str.empty) t] (setAdd S (.str (xs.getD i Str.empty) t)) >>= _) _ _ s1
    refine wpAny_bind (wpAny_holding ?_)
    unfold setAdd
    refine wpAny_holding ?_
    refine wpAny_bind ((PySem.strKind prog w).pyHash (k := xs.getD i Str.empty) (strKind_is _ _ _ _) ?_)
    have room : dups xs i + 1 < scanBound := by have := dups_le xs i; omega
    refine wpAny_setAddHashed_of (knd := PySem.strKind prog w) (s := { s1 with toks := s1.toks + 1 }) (strKind_is _ _ _ _) rfl (setS_keep hS fun o e => m1.heap S o sw e) room fun h2 sb S2 => ?_
    have Sn : SetS prog w xs S (i + 1) h2 := PyProof.Rows.SetOf_congr S2 (fun k' => (any_succ xs i (by omega) k').symm) (dups_succ xs i (by omega)).symm
    refine wpAny_pure ⟨plainId_quiet PyProof.Rows.F.plain_set_update_loop _, ih (i + 1) _ (by omega) lt (W.frame _ s1 _ _ st1 (Nat.le_succ _) fun b hb o e => ?_) Sn fun s2 m2 S3 => ?_⟩
    · rw [sb.2 b (fun h : b = S => hSf (by rw [← h]; exact hb))]; exact e
    · refine hR s2 (Moved.trans W.gtrans ((m1.mono mo).then_heap (Nat.le_succ _) fun b o hb e => ?_) m2) S3
      rw [sb.2 b (fun h : b = S => hb (by rw [h]; exact List.mem_cons_self))]; exact e
end
section
variable {prog : Program} {w : World} {A : Around} {E : Value → Shared → Prop} {s : Shared}
/-- a set just made -/
def setO (led : Bool) : Obj := { cls := .type "set", dict := none, data := .set #[] 0 (.fresh 0 0 led) }
/-- what set(..) leaves -/
def SetDone (prog : Program) (w : World) (xs : List Str) (s : Shared) (h' : Heap) : Prop := SetS prog w xs s.heap.objs.size xs.length h' ∧ ∀ b o, b < s.heap.objs.size → s.heap.get? b = some o → h'.get? b = some o
set_option maxHeartbeats 3200000 in
theorem set_of_list {l : Addr} {items : Array Value} {xs : List Str} {Q : Value → Shared → Prop} (hh : A.handled = none) (hl : s.heap.IsList l items) (hi : PyProof.Rows.StrsAre items.toList xs) (hb : xs.length + 1 < scanBound)
    (fin : ∀ (h' : Heap) (tk : Nat), SetDone prog w xs s h' → Q (.ref s.heap.objs.size) { s with heap := h', toks := tk }) : wpAny (model prog w) A (call (.type "set") [.ref l]) Q E s := by
  have hsz : xs.length = items.size := by rw [← StrsAre.len_eq hi, Array.length_toList]
  obtain ⟨c, tl, hmro⟩ := PySem.F.called_set.mro
  have f1 := PySem.F.called_set.made
  have f2 := PySem.F.called_set.sub
  refine wpAny_call (codeAny_of_tree ?_)
  show wpAny _ _ (callAny (.type "set") _) _ _ _
  refine wpAny_pure ⟨Code.quiet_builtin _ (by decide +kernel), codeAny_builtin PySem.F.entry_type_call ?_⟩
  rw [Around.under_plain (weight_type_call_type "set" [.ref l] []) rfl]
  have f3 := PySem.F.called_set.notType
  have f4 := PySem.F.called_set.canCreate
  have f5 := PySem.F.typeCall_set_1 (.ref l)
  repeat (any_goals (first | assumption | wp_step))
  refine codeAny_mono (code_set_new_1 (.ref l) (E := E) (Q₁ := fun ob s1 => ∃ led : Bool, ob = .ref s.heap.objs.size ∧ s1 = { s with heap := s.heap.push (setO led) }) fun led => ⟨led, rfl, rfl⟩) fun r s1 hr => ?_
  cases r with
  | error e => exact hr
  | ok fl =>
    cases fl with
    | ret ob =>
      obtain ⟨led, rfl, rfl⟩ := hr
      have hS : (s.heap.push (setO led)).get? s.heap.objs.size = some (setO led) := Heap.get?_push_size _ rfl
      have hT : Shared.TypeIs { s with heap := s.heap.push (setO led) } (.ref s.heap.objs.size) "set" := ⟨_, hS, rfl⟩
      have f6 := PySem.F.called_set.init.lookup
      have f7 := PySem.F.called_set.init.bind (.ref s.heap.objs.size)
      repeat (any_goals (first | assumption | wp_step))
      refine codeAny_mono (codeAny_call_builtin (R := wants (fun r s2 => r = .none ∧ ∃ h' tk, s2 = { s with heap := h', toks := tk } ∧ SetDone prog w xs s h') E) PySem.F.called_set.init.plain PySem.F.entry_set_init (check_set_init_1 hT ?_)) fun r2 s2 hr2 => ?_
      · obtain ⟨⟨ocl, od, odt, osl⟩, ho, hc, n, hd⟩ := hl
        simp only at hc hd
        subst hc; subst hd
        have ho2 : (s.heap.push (setO led)).get? l = some { cls := .type "list", dict := od, data := .seq items n, slots := osl } := Heap.get?_push_of_some _ ho
        have g1 := PySem.F.sub_list_set
        have g2 := PySem.F.sub_list_frozenset
        have g3 : (Value.type "list" == Value.type "dict") = false := by decide
        have l1 : (s.heap.push (setO led)).IsList l items := ⟨_, ho2, rfl, n, rfl⟩
        unfold Builtin.«set.__init__» noKeywords Builtin.Frozenset.updateFrom
        generalize hPI : pyIter = PI
        wp_walk
        subst hPI
        refine wpAny_pyIter_list l1 ?_
        refine wpAny_bind (wpAny_runValue ?_)
        have ls : l < s.heap.objs.size := Heap.lt_size ho
        have zi : (s.heap.push (setO led)).objs.size = s.heap.objs.size + 1 := Heap.size_push ..
        have n1 : l ≠ (s.heap.push (setO led)).objs.size := by rw [zi]; exact Nat.ne_of_lt (Nat.lt_succ_of_lt ls)
        have n2 : s.heap.objs.size ∉ [(s.heap.push (setO led)).objs.size, l] := by
          rw [zi]
          intro h
          rcases List.mem_cons.mp h with h | h
          · exact absurd h (Nat.ne_of_lt (Nat.lt_succ_self _))
          · exact absurd (List.mem_singleton.mp h) (Nat.ne_of_gt ls)
        refine put_texts ((Walks.list (by simp [hh]) _ l n1 items).toS) s.heap.objs.size n2 xs hsz (by rw [← hsz]; exact hb) (fun i v hv => SS.strs_at hi i v (by rw [Array.getElem?_toList]; exact hv)) (items.size - 0) 0 _ (by omega) (Nat.zero_le _)
          ⟨⟨_, Heap.get?_push_size _ rfl, rfl, rfl⟩, (l1.push _)⟩ ?atStart ?atEnd
        case atStart =>
          have hg : ((s.heap.push (setO led)).push { cls := .type "list_iterator", data := .fields #[.ref l, .int 0 0] }).get? s.heap.objs.size = some (setO led) := Heap.get?_push_of_some _ hS
          exact PyProof.Rows.SetOf_congr ((PyProof.Rows.setObjOf_fresh (knd := PySem.strKind prog w) led).setOf hg (by unfold scanBound; omega)) (fun _ => rfl) rfl
        case atEnd =>
          intro s' hm hS'
          obtain ⟨h', g', d', tk', os'⟩ := s'
          cases (show g' = s.gens from hm.gens)
          cases (show d' = s.drawn from hm.drawn)
          cases (show os' = s.os from hm.os)
          show wpAny _ _ _ _ _ _
          refine wpAny_pure ?_
          show wpAny _ _ (ret Value.none) _ _ _
          refine wpAny_pure ⟨rfl, h', tk', rfl, by rw [hsz]; exact hS', fun b o hb e => ?_⟩
          refine hm.heap b o (fun h => ?_) (Heap.get?_push_of_some _ (Heap.get?_push_of_some _ e))
          rcases List.mem_cons.mp h with h | h
          · exact absurd h (Nat.ne_of_lt hb)
          · have h := List.mem_singleton.mp h
            rw [zi] at h
            exact absurd h (Nat.ne_of_lt (Nat.lt_succ_of_lt hb))
      · cases r2 with
        | error e => exact hr2
        | ok fl2 =>
          cases fl2 with
          | ret r =>
            obtain ⟨rfl, h', tk, rfl, hd⟩ := hr2
            repeat (any_goals (first | assumption | wp_step))
            exact fin _ _ hd
          | _ => exact hr2.elim
    | _ => exact hr.elim
set_option maxHeartbeats 3200000 in
theorem set_of_tuple {l : Addr} {items : Array Value} {xs : List Str} {Q : Value → Shared → Prop} (hh : A.handled = none) (hl : s.heap.IsTuple l items) (hi : PyProof.Rows.StrsAre items.toList xs) (hb : xs.length + 1 < scanBound)
    (fin : ∀ (h' : Heap) (tk : Nat), SetDone prog w xs s h' → Q (.ref s.heap.objs.size) { s with heap := h', toks := tk }) : wpAny (model prog w) A (call (.type "set") [.ref l]) Q E s := by
  have hsz : xs.length = items.size := by rw [← StrsAre.len_eq hi, Array.length_toList]
  obtain ⟨c, tl, hmro⟩ := PySem.F.called_set.mro
  have f1 := PySem.F.called_set.made
  have f2 := PySem.F.called_set.sub
  refine wpAny_call (codeAny_of_tree ?_)
  show wpAny _ _ (callAny (.type "set") _) _ _ _
  refine wpAny_pure ⟨Code.quiet_builtin _ (by decide +kernel), codeAny_builtin PySem.F.entry_type_call ?_⟩
  rw [Around.under_plain (weight_type_call_type "set" [.ref l] []) rfl]
  have f3 := PySem.F.called_set.notType
  have f4 := PySem.F.called_set.canCreate
  have f5 := PySem.F.typeCall_set_1 (.ref l)
  repeat (any_goals (first | assumption | wp_step))
  refine codeAny_mono (code_set_new_1 (.ref l) (E := E) (Q₁ := fun ob s1 => ∃ led : Bool, ob = .ref s.heap.objs.size ∧ s1 = { s with heap := s.heap.push (setO led) }) fun led => ⟨led, rfl, rfl⟩) fun r s1 hr => ?_
  cases r with
  | error e => exact hr
  | ok fl =>
    cases fl with
    | ret ob =>
      obtain ⟨led, rfl, rfl⟩ := hr
      have hS : (s.heap.push (setO led)).get? s.heap.objs.size = some (setO led) := Heap.get?_push_size _ rfl
      have hT : Shared.TypeIs { s with heap := s.heap.push (setO led) } (.ref s.heap.objs.size) "set" := ⟨_, hS, rfl⟩
      have f6 := PySem.F.called_set.init.lookup
      have f7 := PySem.F.called_set.init.bind (.ref s.heap.objs.size)
      repeat (any_goals (first | assumption | wp_step))
      refine codeAny_mono (codeAny_call_builtin (R := wants (fun r s2 => r = .none ∧ ∃ h' tk, s2 = { s with heap := h', toks := tk } ∧ SetDone prog w xs s h') E) PySem.F.called_set.init.plain PySem.F.entry_set_init (check_set_init_1 hT ?_)) fun r2 s2 hr2 => ?_
      · obtain ⟨⟨ocl, od, odt, osl⟩, ho, hc, n, hd⟩ := hl
        simp only at hc hd
        subst hc; subst hd
        have ho2 : (s.heap.push (setO led)).get? l = some { cls := .type "tuple", dict := od, data := .seq items n, slots := osl } := Heap.get?_push_of_some _ ho
        have g1 := PySem.F.sub_tuple_set
        have g2 := PySem.F.sub_tuple_frozenset
        have g3 : (Value.type "tuple" == Value.type "dict") = false := by decide
        have l1 : (s.heap.push (setO led)).IsTuple l items := ⟨_, ho2, rfl, n, rfl⟩
        unfold Builtin.«set.__init__» noKeywords Builtin.Frozenset.updateFrom
        generalize hPI : pyIter = PI
        wp_walk
        subst hPI
        refine wpAny_pyIter_tuple l1 ?_
        refine wpAny_bind (wpAny_runValue ?_)
        have ls : l < s.heap.objs.size := Heap.lt_size ho
        have zi : (s.heap.push (setO led)).objs.size = s.heap.objs.size + 1 := Heap.size_push ..
        have n1 : l ≠ (s.heap.push (setO led)).objs.size := by rw [zi]; exact Nat.ne_of_lt (Nat.lt_succ_of_lt ls)
        have n2 : s.heap.objs.size ∉ [(s.heap.push (setO led)).objs.size, l] := by
          rw [zi]
          intro h
          rcases List.mem_cons.mp h with h | h
          · exact absurd h (Nat.ne_of_lt (Nat.lt_succ_self _))
          · exact absurd (List.mem_singleton.mp h) (Nat.ne_of_gt ls)
        refine put_texts ((Walks.tuple (by simp [hh]) _ l n1 items).toS) s.heap.objs.size n2 xs hsz (by rw [← hsz]; exact hb) (fun i v hv => SS.strs_at hi i v (by rw [Array.getElem?_toList]; exact hv)) (items.size - 0) 0 _ (by omega) (Nat.zero_le _)
          ⟨⟨_, Heap.get?_push_size _ rfl, rfl, rfl⟩, (l1.push _)⟩ ?atStart ?atEnd
        case atStart =>
          have hg : ((s.heap.push (setO led)).push { cls := .type "tuple_iterator", data := .fields #[.ref l, .int 0 0] }).get? s.heap.objs.size = some (setO led) := Heap.get?_push_of_some _ hS
          exact PyProof.Rows.SetOf_congr ((PyProof.Rows.setObjOf_fresh (knd := PySem.strKind prog w) led).setOf hg (by unfold scanBound; omega)) (fun _ => rfl) rfl
        case atEnd =>
          intro s' hm hS'
          obtain ⟨h', g', d', tk', os'⟩ := s'
          cases (show g' = s.gens from hm.gens)
          cases (show d' = s.drawn from hm.drawn)
          cases (show os' = s.os from hm.os)
          show wpAny _ _ _ _ _ _
          refine wpAny_pure ?_
          show wpAny _ _ (ret Value.none) _ _ _
          refine wpAny_pure ⟨rfl, h', tk', rfl, by rw [hsz]; exact hS', fun b o hb e => ?_⟩
          refine hm.heap b o (fun h => ?_) (Heap.get?_push_of_some _ (Heap.get?_push_of_some _ e))
          rcases List.mem_cons.mp h with h | h
          · exact absurd h (Nat.ne_of_lt hb)
          · have h := List.mem_singleton.mp h
            rw [zi] at h
            exact absurd h (Nat.ne_of_lt (Nat.lt_succ_of_lt hb))
      · cases r2 with
        | error e => exact hr2
        | ok fl2 =>
          cases fl2 with
          | ret r =>
            obtain ⟨rfl, h', tk, rfl, hd⟩ := hr2
            repeat (any_goals (first | assumption | wp_step))
            exact fin _ _ hd
          | _ => exact hr2.elim
    | _ => exact hr.elim
end
end Ah

/-! ## AhT -/
set_option Elab.async false
set_option linter.all false
set_option maxRecDepth 100000
set_option maxHeartbeats 2000000
/-! Ah: built-ins as expressions; targets; ranges. -/
namespace Ah
open PySem PySem.Spec PyProof.Rows L2
section
variable {X : Cx} {G : Ah.G} {E : XK} {P : Prg} {SH : Shapes} {cl : Cl} {k : Nat} {pos p : Pos} {e ea eb ec tg it elt : Expr} {a b c ci ce cc : C} {es : List Expr} {x : V} {d : D} {B : Bar} {s : Dr} {H : Hp} {Q : VK} {da : D}
theorem paired_of {α β : Type} {R0 : α → β → Prop} : ∀ {l : List α} {m : List β}, l.length = m.length → (∀ (i : Nat) a b, l[i]? = some a → m[i]? = some b → R0 a b) → Paired R0 l m
  | [], [], _, _ => .nil
  | [], _ :: _, h, _ => by cases h
  | _ :: _, [], h, _ => by cases h
  | a :: l, b :: m, h, r => .cons (r 0 a b rfl rfl) (paired_of (by simpa using h) fun i x y e1 e2 => r (i + 1) x y (by simpa using e1) (by simpa using e2))
/-! ### by values -/
theorem den_signs {z : Str} (hz : sOk z = true) : ∀ l : List Nat, (∀ c ∈ l, c ∈ z.cps.toList) → DenL G B H (l.map fun c => D.str ⟨#[c]⟩) (l.map fun c => V.str ⟨#[c]⟩)
  | [], _ => .nil
  | y :: l, hm => .cons (.str (sOk_sign hz (hm y List.mem_cons_self))) (den_signs hz l fun c hc => hm c (List.mem_cons_of_mem _ hc))
theorem list_okG (hx : XOk X G P SH cl E k) (h : bltD .list da = some d) (ha : Den G B H da x) (q : ∀ ds vs p, d = .lst ds → ds.length ≤ LIM → DenL G B H ds vs → H p = none → Q (.ref p) (upd H p (.lst vs))) : rCW X (.type "list") [x] H Q := by
  have hK := hx.K
  cases ha <;> simp only [bltD] at h <;> try (cases h; done)
  · rename_i z hz
    cases h
    intro pins s0 σ us I r
    obtain ⟨u, rfl, t, rfl⟩ := vals1 r
    refine PySem.call_list_str hx.room.hd z t (fun h' tk acc c' hk ho hi => ?_) (le_line (sOk_len hz))
    have nf : H s0.heap.objs.size = none := I.hok.fresh (Nat.le_refl _)
    have ob : ObjOk X.prog X.w (upd H s0.heap.objs.size (.lst (z.cps.toList.map fun c => V.str ⟨#[c]⟩))) h' s0.heap.objs.size (.lst (z.cps.toList.map fun c => V.str ⟨#[c]⟩)) := by
      obtain ⟨hs, hv⟩ := hi
      refine ⟨by rw [List.length_map, Array.length_toList]; exact le_line (sOk_len hz), acc.toList, c', ?_, by rw [ho]⟩
      refine paired_of (by rw [List.length_map, Array.length_toList, Array.length_toList, hs]) fun i v u e1 e2 => ?_
      rw [Array.getElem?_toList] at e2
      obtain ⟨cc, t', e3, rfl⟩ := hv i u e2
      rw [List.getElem?_map, Array.getElem?_toList, e3] at e1
      cases e1
      exact ⟨t', rfl⟩
    exact ⟨.ref s0.heap.objs.size, _, I.laid (t' := tk) hk (Nat.le_refl _) ob, rfl, q _ _ _ rfl (by rw [List.length_map, Array.length_toList]; exact sOk_len hz) (den_signs hz _ fun _ h => h) nf⟩
  · rename_i e l z
    cases h
    exact rCW_of call_list_of ⟨_, _, rfl, .inr (hK ▸ e), fun p hp => q _ _ p rfl z l hp⟩
  · rename_i n e l z
    cases h
    exact rCW_of call_list_of ⟨_, _, rfl, .inl (.of e), fun p hp => q _ _ p rfl z l hp⟩
theorem list_ok (hx : XOk X G P SH cl E k) (h : bltD .list da = some d) (ha : Den G B H da x) (bk : BOk G B H) (g : Good G s H) (q : fin (relD G B) G E H Q (.ok d s)) : rCW X (.type "list") [x] H Q :=
  list_okG hx h ha fun ds vs p e z l hp => by subst e; exact q.lst g bk l z hp
theorem repr_ok (hx : XOk X G P SH cl E k) (hgd : X.A.guards = some []) (h : bltD .repr da = some d) (ha : Den G B H da x) (g : Good G s H) (q : fin (relD G B) G E H Q (.ok d s)) : rCW X (.builtin "repr") [x] H Q := by
  intro pins s0 σ us I r
  obtain ⟨u, rfl, ru⟩ := vals1 r
  simp only [bltD] at h
  split at h
  · rename_i w hw
    split at h
    · rename_i hc
      cases h
      obtain ⟨h1, h2, h3⟩ := hc
      have hdp : w.depth ≤ 60 := by
        unfold D.pyS at hw
        split at hw
        · split at hw
          · cases hw; assumption
          · cases hw
        · cases hw
      obtain ⟨hd, _⟩ := pyS_dp hx.K ha hw
      obtain ⟨as, rd⟩ := Dp.reads I w x u hd ru
      have out : ∀ (s' : Shared) (t : Tok), Inv X pins σ H s' → EP X pins σ Q (.str w.shown t) s' := fun s' t I' => ⟨.str w.shown, H, I', ⟨t, rfl⟩, fin.here q g (.str h3)⟩
      cases rd with
      | none => exact PySem.P.repr_of_none (out _ _ (I.tok _))
      | bool b => exact PySem.P.repr_of_bool (by cases b <;> exact out _ _ (I.tok _))
      | int i t => exact PySem.P.repr_of_int (by simpa [PyData.showable] using h1) (out _ _ (I.tok _))
      | str y t => exact PySem.P.repr_of_str (out _ _ (I.tok _)) (le_line (sOk_len h3))
      | list o1 o2 o3 o4 => exact PySem.repr_of_reads' (.list o1 o2 o3 o4) h1 (PyData.noDict_hsm h2) hgd (by have := hx.room.un; omega) (fun _ _ e => e) (fun h' u tk hk => out _ _ (I.kept hk)) (le_line (sOk_len h3))
      | tuple o1 o2 o3 o4 => exact PySem.repr_of_reads' (.tuple o1 o2 o3 o4) h1 (PyData.noDict_hsm h2) hgd (by have := hx.room.un; omega) (fun _ _ e => e) (fun h' u tk hk => out _ _ (I.kept hk)) (le_line (sOk_len h3))
      | dict o1 o2 o3 o4 o5 => exact absurd h2 (by simp [PyData.hasDict])
    · cases h
  · cases h
end
end Ah

/-! ## AhU -/
set_option Elab.async false
set_option linter.all false
set_option maxRecDepth 100000
set_option maxHeartbeats 2000000
/-! Ah: built-ins as expressions; targets; ranges. -/
namespace Ah
open PySem PySem.Spec PyProof.Rows L2
section
variable {X : Cx} {G : Ah.G} {E : XK} {P : Prg} {SH : Shapes} {cl : Cl} {k : Nat} {pos p : Pos} {e ea eb ec tg it elt : Expr} {a b c ci ce cc : C} {es : List Expr}
/-- a built-in of one thing, by its name -/
def bltNm : Bl → Option (Str × Value)
  | .len => some ("len", .builtin "len") | .tuple => some ("tuple", .type "tuple") | .list => some ("list", .type "list") | .all => some ("all", .builtin "all") | .repr => some ("repr", .builtin "repr") | .int => some ("int", .type "int") | .abs => some ("abs", .builtin "abs")
  | _ => none
theorem bltNm_ok {bl : Bl} {x : Str} {f : Value} (h : bltNm bl = some (x, f)) : bootBuiltins x = some f ∧ x ∈ (["len", "tuple", "list", "all", "set", "repr", "min", "max", "str", "int", "sorted", "sum", "abs", "isinstance", "range", "enumerate", "bool", "dict"] : List Str) ∧ nmOk x = true := by
  cases bl <;> cases h <;> exact ⟨by decide +kernel, by decide +kernel, by decide +kernel⟩
theorem blt_ok {bl : Bl} {x : Str} {f : Value} (hx : XOk X G P SH cl E k) (hgd : bl = .repr → X.A.guards = some []) (hb : bltNm bl = some (x, f)) {B : Bar} {H : Hp} {Q : VK} {s : Dr} {da d : D} {v : V} (h : bltD bl da = some d) (ha : Den G B H da v) (bk : BOk G B H) (g : Good G s H) (q : fin (relD G B) G E H Q (.ok d s)) : rCW X f [v] H Q := by
  cases bl <;> cases hb
  · exact len_ok hx.K h ha g q
  · exact tuple_ok hx.K h ha bk g q
  · exact list_ok hx h ha bk g q
  · exact all_ok hx.K hx.calm h ha g q
  · exact repr_ok hx (hgd rfl) h ha g q
  · cases ha <;> simp only [bltD] at h <;> first | (cases h; done) | skip
    cases h
    exact rCW_of call_int1 (.inl ⟨_, rfl, fin.here q g (.int _)⟩)
  · cases ha <;> simp only [bltD] at h <;> first | (cases h; done) | skip
    cases h
    exact rCW_of call_abs ⟨_, rfl, fin.here q g (.int _)⟩
theorem pe_blt1 {x : Str} {f : Value} {t : TE} {r : List V → Hp → VK → Prop} (hc : CallR X f r) (hg : Gl X x) (hm : X.mg x = none) (hv : bootBuiltins x = some f) (hn : nmOk x = true) (hs : noStar ea = true) (ha : PE X ea t) (hf : (∃ n, f = .builtin n) ∨ ∃ n, f = .type n) :
    PE X (.Call (.Name x p) [ea] [] pos) (fun σ H Q => t σ H fun v H1 => r [v] H1 Q) := by
  have pa : PA X [ea] (tCons t tNil) := pa_cons ha pa_nil (starEach_cons hs)
  rcases hf with ⟨n, rfl⟩ | ⟨n, rfl⟩
  · exact pe_callB hc hg hm hv pa (nmOk_3 hn) (nmOk_1 hn) (starEach_cons hs) rfl
  · exact pe_callTy hc hg hm hv pa (nmOk_3 hn) (nmOk_1 hn) (starEach_cons hs) rfl
theorem pv_blt {bl : Bl} {x : Str} {f : Value} (hx : XOk X G P SH cl E k) (hgd : bl = .repr → X.A.guards = some []) (hb : bltNm bl = some (x, f)) (hgl : glB X.env.scope x = true) (hs : noStar ea = true) (ha : PEv X G E P cl a ea) : PEv X G E P cl (.blt bl a) (.Call (.Name x p) [ea] [] pos) := by
  obtain ⟨h1, h2, h3⟩ := bltNm_ok hb
  refine PE.imp (pe_blt1 callr_W (gl_of hgl) (hx.wd.blt x h2) h1 h3 hs ha ?_) fun σ H Q ⟨B, env, s, at_, h⟩ => ?_
  · cases bl <;> cases hb <;> first | exact .inl ⟨_, rfl⟩ | exact .inr ⟨_, rfl⟩
  · simp only [ev] at h
    refine one at_ h fun x s vx H' x1 at' d1 h' => ?_
    obtain ⟨d, e1, h'⟩ := fin_ofO h'
    exact blt_ok hx hgd hb e1 d1 at'.bok at'.good h'
/-- min, max of two numbers -/
def blt2Nm : Bl → Option Str | .minI => some "min" | .maxI => some "max" | _ => none
theorem pv_blt2 {bl : Bl} {x : Str} (hx : XOk X G P SH cl E k) (hb : blt2Nm bl = some x) (hgl : glB X.env.scope x = true) (hs : noStar ea = true) (hs2 : noStar eb = true) (ha : PEv X G E P cl a ea) (hb2 : PEv X G E P cl b eb) : PEv X G E P cl (.blt2 bl a b) (.Call (.Name x p) [ea, eb] [] pos) := by
  have pa : PA X [ea, eb] _ := pa_cons ha (pa_cons hb2 pa_nil (starEach_cons hs2)) (starEach_cons hs)
  have go : ∀ {f : Value} {r : List V → Hp → VK → Prop}, (∃ n, f = .builtin n) → bootBuiltins x = some f → CallR X f r → x ∈ (["len", "tuple", "list", "all", "set", "repr", "min", "max", "str", "int", "sorted", "sum", "abs", "isinstance", "range", "enumerate", "bool", "dict"] : List Str) → nmOk x = true →
      (∀ i j d H Q s B, blt2D bl (.int i) (.int j) = some d → Good G s H → fin (relD G B) G E H Q (.ok d s) → r [.int i, .int j] H Q) → PEv X G E P cl (.blt2 bl a b) (.Call (.Name x p) [ea, eb] [] pos) := fun {f r} hf hv hc hm hn hr => by
    obtain ⟨n, rfl⟩ := hf
    refine PE.imp (pe_callB hc (gl_of hgl) (hx.wd.blt x hm) hv pa (nmOk_3 hn) (nmOk_1 hn) (starEach_cons hs) (by rw [starEach_cons hs2]; rfl)) fun σ H Q ⟨B, env, s, at_, h⟩ => ?_
    simp only [ev] at h
    refine two at_ h fun x y s vx vy H' x1 at' d1 d2 h' => ?_
    obtain ⟨d, e1, h2'⟩ := fin_ofO h'
    have sh : ∃ i j, x = .int i ∧ y = .int j := by
      cases bl <;> simp only [blt2Nm] at hb <;> try (cases hb; done)
      all_goals (cases x <;> simp only [blt2D] at e1 <;> try (cases e1; done))
      all_goals (cases y <;> simp only [blt2D] at e1 <;> try (cases e1; done))
      all_goals exact ⟨_, _, rfl, rfl⟩
    obtain ⟨i, j, rfl, rfl⟩ := sh
    cases d1; cases d2
    exact hr i j d _ _ s B e1 at'.good h2'
  cases bl <;> simp only [blt2Nm] at hb <;> cases hb
  · exact go ⟨_, rfl⟩ (by decide +kernel) (call_min2 hx.calm) (by decide +kernel) (by decide +kernel) fun i j d H Q s B e g q => by
      simp only [blt2D] at e; cases e
      exact ⟨_, _, rfl, fin.here q g (.int _)⟩
  · exact go ⟨_, rfl⟩ (by decide +kernel) (call_max2 hx.calm) (by decide +kernel) (by decide +kernel) fun i j d H Q s B e g q => by
      simp only [blt2D] at e; cases e
      exact ⟨_, _, rfl, fin.here q g (.int _)⟩
/-- len(set(e)) -/
theorem pe_lenSetW {t : TE} (hx : XOk X G P SH cl E k) {p2 q : Pos} (hg : Gl X "len") (hg2 : Gl X "set") (hs : noStar ea = true) (ha : PE X ea t) :
    PE X (.Call (.Name "len" p) [.Call (.Name "set" p2) [ea] [] q] [] pos) (fun σ H Q => t σ H fun v H1 => ∃ (l : Addr) (xs : List Str), v = .ref l ∧ (SqL X.K H1 l (xs.map V.str) ∨ SqT X.K H1 l (xs.map V.str)) ∧ xs.length ≤ 4000 ∧ Q (.int (xs.eraseDups.length : Nat)) H1) := by
  refine ⟨fun pins s σ H Q I h => ?_⟩
  have hm1 : X.mg "len" = none := hx.wd.blt _ (by decide +kernel)
  have hm2 : X.mg "set" = none := hx.wd.blt _ (by decide +kernel)
  refine Call_ (ld_blt I hg hm1 boot_len ?_)
  refine PyProof.Rows.callWith_builtin1 (PyProof.Rows.args_cons ?_ rfl) rfl rfl
  refine Call_ (ld_blt I hg2 hm2 boot_set ?_)
  refine PyProof.Rows.callWith_type1 (PyProof.Rows.args_cons (thn (ha.run pins s σ H _ I h) fun v s1 ⟨x, H1, I1, r1, q1⟩ => PyProof.Rows.args_nil ?_) (starEach_cons hs)) (starEach_cons hs) rfl
  obtain ⟨l, xs, rfl, hq, hl, q1⟩ := q1
  cases r1
  have out : ∀ (h' : Heap) (tk : Nat), SetDone X.prog X.w xs s1 h' →
      wpAny (model X.prog X.w) X.A (spliced (backTo pos (starEach [] X.env))) (fun vs s2 => wpAny (model X.prog X.w) X.A (call (.builtin "len") (Value.ref s1.heap.objs.size :: vs)) (EP X pins σ Q) X.xe s2) X.xe { s1 with heap := h', toks := tk } := fun h' tk hd => by
    refine PyProof.Rows.args_nil ?_
    obtain ⟨⟨o, es, ep, t, ho, hex, hd, _, _, _, hf, hn⟩, hk⟩ := hd
    have hle : dups xs xs.length ≤ xs.length := dups_le xs xs.length
    have e : dups xs xs.length = xs.eraseDups.length := by unfold dups; rw [List.take_length]
    have I2 : Inv X pins σ H1 { s1 with heap := h', toks := tk } := I1.kept fun b o e => hk b o (Heap.lt_size e) e
    exact call_len_set ho hex hd hf (by rw [hn]; omega) ⟨.int (xs.eraseDups.length : Nat), H1, I2.tok _, ⟨_, by rw [hn, e]⟩, q1⟩
  rcases hq with hq | hq
  · obtain ⟨its, r, pl, hz⟩ := I1.list hq
    exact set_of_list (I1.ok.hd hx.calm) pl.isList (by simpa using strsAre_of r) (by unfold scanBound; omega) out
  · obtain ⟨its, r, pl, hz⟩ := I1.tuple hq
    exact set_of_tuple (I1.ok.hd hx.calm) pl (by simpa using strsAre_of r) (by unfold scanBound; omega) out
theorem pv_lenSet {p2 q : Pos} (hx : XOk X G P SH cl E k) (hg : glB X.env.scope "len" = true) (hg2 : glB X.env.scope "set" = true) (hs : noStar ea = true) (ha : PEv X G E P cl a ea) : PEv X G E P cl (.blt .lenSet a) (.Call (.Name "len" p) [.Call (.Name "set" p2) [ea] [] q] [] pos) := by
  refine PE.imp (pe_lenSetW hx (gl_of hg) (gl_of hg2) hs ha) fun σ H Q ⟨B, env, s, at_, h⟩ => ?_
  simp only [ev] at h
  refine one at_ h fun x s vx H' x1 at' d1 h' => ?_
  obtain ⟨d, e1, h'⟩ := fin_ofO h'
  have go : ∀ {ds : List D} {vs : List V}, DenL G B H' ds vs → (match ds.mapM (fun d => match d with | .str s => some s | _ => none) with | some ss => if ss.length ≤ 4000 then some (D.int (ss.eraseDups.length : Nat)) else none | none => none) = some d → ∃ xs : List Str, vs = xs.map V.str ∧ xs.length ≤ 4000 ∧ d = .int (xs.eraseDups.length : Nat) := fun {ds vs} l e => by
    split at e
    · rename_i ss hm
      split at e
      · cases e
        exact ⟨ss, mapM_str l hm, by assumption, rfl⟩
      · cases e
    · cases e
  cases d1 <;> simp only [bltD] at e1 <;> try (cases e1; done)
  · rename_i e0 l z
    obtain ⟨xs, rfl, h1, rfl⟩ := go l e1
    exact ⟨_, xs, rfl, .inr (hx.K ▸ e0), h1, h'.here at'.good (.int _)⟩
  · rename_i n e0 l z
    obtain ⟨xs, rfl, h1, rfl⟩ := go l e1
    exact ⟨_, xs, rfl, .inl (.of e0), h1, h'.here at'.good (.int _)⟩
/-! ### a name that stands in the module -/
theorem pv_gcon {j : Nat} {x : Str} {d : D} (hx : XOk X G P SH cl E k) (hj : P.gcs[j]? = some (x, d)) (hgl : glB X.env.scope x = true) (hn : nmOk x = true) : PEv X G E P cl (.gcon j) (.Name x pos) := by
  obtain ⟨u, v, hm, r, hd⟩ := hx.wd.gcs j x d hj
  refine PE.imp (pe_glob (gl_of hgl) hm r (nmOk_1 hn)) fun σ H Q ⟨B, env, s, at_, h⟩ => ?_
  simp only [ev, hj] at h
  exact h.here at_.good (hd B H)
/-! ### isinstance -/
def tyNm (P : Prg) : Ty → Option Str
  | .bi n => if n ∈ ["str", "int", "bool", "list", "tuple", "dict"] then some (Str.ofString n) else none
  | .cls k => (P.cls[k]?).map (·.name)
  | .ecl k => (P.ecs[k]?).map (·.name)
theorem pe_ty {t : Ty} {x : Str} (hx : XOk X G P SH cl E k) (ht : tyNm P t = some x) (hgl : glB X.env.scope x = true) (hn : nmOk x = true) : PE X (.Name x pos) (tC (tyVv G t)) := by
  cases t with
  | bi n =>
    simp only [tyNm] at ht
    split at ht
    · rename_i hm
      cases ht
      refine pe_bltn (u := .type n) (gl_of hgl) (hx.wd.bty n hm) ?_ rfl (nmOk_3 hn) (nmOk_1 hn)
      simp only [List.mem_cons, List.not_mem_nil, or_false] at hm
      rcases hm with rfl | rfl | rfl | rfl | rfl | rfl <;> decide +kernel
    · cases ht
  | cls j =>
    obtain ⟨ci, h1, rfl⟩ := Option.map_eq_some_iff.mp ht
    obtain ⟨fi, addr, fd, hfi, hm, _⟩ := hx.wd.cls j ci h1
    exact pe_glob (gl_of hgl) hm rfl (nmOk_1 hn)
  | ecl j =>
    obtain ⟨ci, h1, rfl⟩ := Option.map_eq_some_iff.mp ht
    obtain ⟨hm, _⟩ := hx.wd.ecs j ci h1
    exact pe_glob (gl_of hgl) hm rfl (nmOk_1 hn)
theorem noStar_name {x : Str} : noStar (.Name x pos) = true := rfl
theorem pv_isi1 {t : Ty} {x : Str} {p2 : Pos} (hx : XOk X G P SH cl E k) (hgi : glB X.env.scope "isinstance" = true) (ht : tyNm P t = some x) (hgl : glB X.env.scope x = true) (hn : nmOk x = true) (hs : noStar ea = true) (ha : PEv X G E P cl a ea) :
    PEv X G E P cl (.isi a [t]) (.Call (.Name "isinstance" p) [ea, .Name x p2] [] pos) := by
  have pa := pa_cons ha (pa_cons (pe_ty (pos := p2) hx ht hgl hn) (pa_nil (X := X)) (starEach_cons noStar_name)) (starEach_cons hs)
  refine PE.imp (pe_callB (r := rCW X (.builtin "isinstance")) callr_W (gl_of hgi) (hx.wd.blt _ (by decide +kernel)) boot_isinstance pa (nmOk_3 (by decide +kernel)) (nmOk_1 (by decide +kernel)) (starEach_cons hs) rfl) fun σ H Q ⟨B, env, s, at_, h⟩ => ?_
  simp only [ev] at h
  refine one at_ h fun x s vx H' x1 at' d1 h' => ?_
  split at h'
  · rename_i t0 e0
    obtain ⟨d, e1, h'⟩ := fin_ofO h'
    obtain ⟨kk, e2, rfl⟩ := Option.map_eq_some_iff.mp e1
    have e3 : P.isi t0 t = some kk := by
      simp only [isiL] at e2
      split at e2 <;> cases e2 <;> assumption
    exact isi1_ok hx d1 at'.good e0 e3 h'
  · exact h'.elim
def tyNms (P : Prg) : List Ty → List Expr → Bool
  | [], [] => true
  | t :: ts, .Name x _ :: es => decide (tyNm P t = some x) && nmOk x && tyNms P ts es
  | _, _ => false
def glNms (sc : Scope) : List Expr → Bool
  | [] => true
  | .Name x _ :: es => glB sc x && glNms sc es
  | _ => false
def tTys (G : Ah.G) (ts : List Ty) : TA := fun _ H Q => Q (ts.map (tyVv G)) H
theorem pa_tys (hx : XOk X G P SH cl E k) : ∀ {ts : List Ty} {es : List Expr}, tyNms P ts es = true → glNms X.env.scope es = true → PA X es (tTys G ts)
  | [], [], _, _ => PA.imp pa_nil fun σ H Q h => h
  | t :: ts, .Name x p0 :: es, h, hg => by
    simp only [tyNms, Bool.and_eq_true, decide_eq_true_eq] at h
    simp only [glNms, Bool.and_eq_true] at hg
    exact PA.imp (pa_cons (pe_ty hx h.1.1 hg.1 h.1.2) (pa_tys hx h.2 hg.2) (starEach_cons noStar_name)) fun σ H Q h => h
theorem pv_isiT {ts : List Ty} {j : Nat} {p2 : Pos} (hx : XOk X G P SH cl E k) (hgi : glB X.env.scope "isinstance" = true) (ht : tyNms P ts es = true) (hgl : glNms X.env.scope es = true) (hlen : ts.length ≤ 1000) (hs : noStar ea = true) (ha : PEv X G E P cl a ea) :
    PEv X G E P cl (.isi a ts) (.Call (.Name "isinstance" p) [ea, .Tuple es j p2] [] pos) := by
  have pa := pa_cons ha (pa_cons (pe_tup (x1 := j) (pos := p2) (pa_tys hx ht hgl)) (pa_nil (X := X)) (starEach_cons rfl)) (starEach_cons hs)
  refine PE.imp (pe_callB (r := rCW X (.builtin "isinstance")) callr_W (gl_of hgi) (hx.wd.blt _ (by decide +kernel)) boot_isinstance pa (nmOk_3 (by decide +kernel)) (nmOk_1 (by decide +kernel)) (starEach_cons hs) rfl) fun σ H Q ⟨B, env, s, at_, h⟩ => ?_
  simp only [ev] at h
  refine one at_ h fun x s vx H' x1 at' d1 h' => ?_
  split at h'
  · rename_i t0 e0
    obtain ⟨d, e1, h'⟩ := fin_ofO h'
    obtain ⟨kk, e2, rfl⟩ := Option.map_eq_some_iff.mp e1
    refine ⟨by rw [List.length_map]; exact Nat.le_trans hlen (by decide), fun tp hp => ?_⟩
    exact isiT_ok hx (d1.ext (Ext.upd hp) at'.good.dr at'.bok) (at'.good.upd hp) e0 e2 upd_same (h'.at (Ext.upd hp))
  · exact h'.elim
/-! ### e.f -/
theorem pv_att {f : Str} (hx : XOk X G P SH cl E k) (hb : attB ea = true) (ha : PEv X G E P cl a ea) : PEv X G E P cl (.att a f) (.Attribute ea f pos) := by
  refine PE.imp (pe_attW ha hb) fun σ H Q ⟨B, env, s, at_, h⟩ => ?_
  simp only [ev] at h
  exact ⟨B, env, s, at_, h.bind fun x s1 vx H1 e1 x1 g1 d1 h1 => att_ok hx d1 (at_.ext x1 g1).bok g1 h1⟩
end
end Ah

/-! ## AhV -/
set_option Elab.async false
set_option linter.all false
set_option maxRecDepth 100000
set_option maxHeartbeats 2000000
/-! Ah: where a text stands; targets; ranges and enumerations walked. -/
namespace Ah
open PySem PySem.Spec PyProof.Rows L2
/-- what is seen of a context: slots, scope, what may be assigned to -/
structure Stat where
  N : List Str
  sc : Scope
  asg : Str → Bool
  gd : Bool
  lam : Option Str
structure XS (X : Cx) (t : Stat) : Prop where
  n : X.N = t.N
  sc : X.env.scope = t.sc
  asg : ∀ x, t.asg x = true → Loc X.env.scope x ∧ (X.fn x = true ∨ X.env.scope.names.lookup x = some .local)
def ownB (names : List (Str × NameKind)) (x : Str) : Bool := match names.lookup x with | some .local => true | some .cell => true | _ => false
def Stat.blk (t : Stat) (scope : Scope) : Stat := ⟨t.N, relS scope t.sc, ownB scope.names, t.gd, none⟩
theorem lookup_map2 {f : Str → NameKind → NameKind} : ∀ {l : List (Str × NameKind)} {x : Str}, (l.map fun (n, k) => (n, f n k)).lookup x = (l.lookup x).map (f x)
  | [], x => rfl
  | (n, k) :: r, x => by
    rw [List.map_cons, List.lookup_cons, List.lookup_cons]
    by_cases h : x = n
    · subst h; simp
    · have : (x == n) = false := beq_eq_false_iff_ne.mpr h
      rw [this]; exact lookup_map2
theorem relS_names {scope sc : Scope} {x : Str} : (relS scope sc).names.lookup x = (scope.names.lookup x).map fun k => if (k == .free && sc.kind == .function && sc.names.lookup x == some .cell) then .cell else k := by
  have e : (relS scope sc).names = scope.names.map fun (n, k) => (n, (fun (n : Str) (k : NameKind) => if (k == .free && sc.kind == .function && sc.names.lookup n == some .cell) then NameKind.cell else k) n k) := by
    unfold relS
    refine List.map_congr_left fun y _ => ?_
    obtain ⟨n, k⟩ := y
    by_cases h : (k == .free && sc.kind == .function && sc.names.lookup n == some .cell) = true
    · simp only [h, if_true]
    · simp only [h]; rfl
  rw [e]
  exact lookup_map2 (f := fun (n : Str) (k : NameKind) => if (k == .free && sc.kind == .function && sc.names.lookup n == some .cell) then NameKind.cell else k)
theorem XS.blk {X : Cx} {t : Stat} (h : XS X t) (s : Shared) (H : Hp) (scope : Scope) (C : Addr) (cl : List (Str × Addr)) (fp : List Addr) : XS (X.blk s H scope (compEnvC scope cl C X.env) fp) (t.blk scope) := by
  have es : (compEnvC scope cl C X.env).scope = relS scope t.sc := by rw [← h.sc]; rfl
  refine ⟨h.n, es, fun x hx => ?_⟩
  have hx : ownB scope.names x = true := hx
  show Loc (compEnvC scope cl C X.env).scope x ∧ ((scope.names.lookup x == some .cell) = true ∨ (compEnvC scope cl C X.env).scope.names.lookup x = some .local)
  rw [es]
  unfold ownB at hx
  split at hx
  · rename_i e
    have e2 : (relS scope t.sc).names.lookup x = some .local := by rw [relS_names, e]; rfl
    exact ⟨.inl e2, .inr e2⟩
  · rename_i e
    have e2 : (relS scope t.sc).names.lookup x = some .cell := by rw [relS_names, e]; rfl
    exact ⟨.inr e2, .inl (by rw [e]; rfl)⟩
  · cases hx
section
variable {X : Cx} {G : Ah.G} {E : XK} {P : Prg} {SH : Shapes} {cl : Cl} {k : Nat} {pos p : Pos} {e ea eb ec tg it elt : Expr} {a b c ci ce cc : C} {es : List Expr} {t : Stat}
theorem pg_nm {i : Nat} {x : Str} (hs : XS X t) (nd : X.N.Nodup) (hi : t.N[i]? = some x) (ha : t.asg x = true) : PG X (.Name x pos) (gName i) := by
  obtain ⟨h1, h2⟩ := hs.asg x ha
  exact pg_name nd (by rw [hs.n]; exact hi) h1 h2
def tgNms (t : Stat) : List Nat → List Expr → Bool
  | [], [] => true
  | i :: is, .Name x _ :: es => decide (t.N[i]? = some x) && t.asg x && tgNms t is es
  | _, _ => false
theorem assignEach_name {x : Str} {es : List Expr} {env : Env} : assignEach (.Name x p :: es) env = (false, assign (.Name x p) env) :: assignEach es env := rfl
theorem pgs_nms (hs : XS X t) (nd : X.N.Nodup) : ∀ {is : List Nat} {es : List Expr}, tgNms t is es = true → PGs X es (gNames is)
  | [], [], _ => pgs_nil
  | i :: is, .Name x p0 :: es, h => by
    simp only [tgNms, Bool.and_eq_true, decide_eq_true_eq] at h
    exact pgs_cons (pg_nm hs nd h.1.1 h.1.2) (pgs_nms hs nd h.2) rfl
theorem tgNms_len : ∀ {is : List Nat} {es : List Expr}, tgNms t is es = true → ∀ {env : Env}, (assignEach es env).length = is.length ∧ (assignEach es env).findIdx? (·.1) = none
  | [], [], _, _ => ⟨rfl, rfl⟩
  | i :: is, .Name x p0 :: es, h, env => by
    simp only [tgNms, Bool.and_eq_true, decide_eq_true_eq] at h
    obtain ⟨h1, h2⟩ := tgNms_len h.2 (env := env)
    refine ⟨?_, ?_⟩
    · rw [assignEach_name, List.length_cons, h1]; rfl
    · rw [assignEach_name, List.findIdx?_cons, h2]; rfl
/-- a target's text -/
def tgB (t : Stat) : Tg → Expr → Bool
  | .nm i, .Name x _ => decide (t.N[i]? = some x) && t.asg x
  | .tp is, .Tuple es _ _ => tgNms t is es
  | _, _ => false
theorem pg_tg {tgt : Tg} (hs : XS X t) (nd : X.N.Nodup) (hc : X.calm = true) (h : tgB t tgt tg = true) : PG X tg (tgG X.K tgt) := by
  unfold tgB at h
  split at h
  · simp only [Bool.and_eq_true, decide_eq_true_eq] at h
    exact pg_nm hs nd h.1 h.2
  · obtain ⟨h1, h2⟩ := tgNms_len h (env := X.env)
    exact pg_tup hc (pgs_nms hs nd h) h1 h2
  · cases h
/-! ### ranges -/
theorem evI_rng {env : En} {s : Dr} : evI P cl (.rng a b) env s = (ev P cl a env s).bind fun x s => (ev P cl b env s).bind fun y s => match x, y with
    | .int i, .int j => if -1000000 ≤ i ∧ i ≤ 1000000 ∧ -1000000 ≤ j ∧ j ≤ 1000000 then .ok ((List.range (j - i).toNat).map fun (k : Nat) => D.int (i + k)) s else .no
    | _, _ => .no := by
  unfold evI
  simp only [ev, R.bind_assoc]
  refine congrArg _ (funext fun x => funext fun s => ?_)
  refine congrArg _ (funext fun y => funext fun s => ?_)
  cases x <;> cases y <;> try rfl
  rename_i i j
  show R.bind (if -1000000 ≤ i ∧ i ≤ 1000000 ∧ -1000000 ≤ j ∧ j ≤ 1000000 then _ else _) _ = if -1000000 ≤ i ∧ i ≤ 1000000 ∧ -1000000 ≤ j ∧ j ≤ 1000000 then _ else _
  split <;> rfl
/-- what is walked, for some bars or for all -/
abbrev relI (b : Bool) (G : Ah.G) (B : Bar) : Hp → List D → It → Prop := fun H xs J => ∀ B', (b = true ∨ B' = B) → Wk G B' J xs H
def tRIb (b : Bool) (G : Ah.G) (E : XK) (r : En → Dr → R (List D)) : TI := fun σ H R' => ∃ B env s, At G B env s σ H ∧ fin (relI b G B) G E H R' (r env s)
theorem fin_rel {α β : Type} {r1 r2 : Hp → α → β → Prop} {Q : β → Hp → Prop} {H : Hp} {r : R α} (h : fin r1 G E H Q r) (k : ∀ H' x y, r2 H' x y → r1 H' x y) : fin r2 G E H Q r := by
  cases r with
  | ok x s => exact fun b H' y g q => h b H' y g (k _ _ _ q)
  | exc c ds s => exact h
  | no => exact h
theorem pi_b {r : En → Dr → R (List D)} {bb : Bool} (h : PI X tg e (tRIb bb G E r)) : PI X tg e (tRI G E r) := Ah.PI.imp h fun σ H R' ⟨B, env, s, at_, q⟩ => ⟨B, env, s, at_, fin_rel q fun H' x y w => w B (.inr rfl)⟩
theorem pi_of {r : En → Dr → R (List D)} (h : PI X tg e (tRI G E r)) : PI X tg e (tRIb false G E r) := Ah.PI.imp h fun σ H R' ⟨B, env, s, at_, q⟩ => ⟨B, env, s, at_, fin_rel q fun H' x y w B' hb => by
  rcases hb with hb | rfl
  · cases hb
  · exact w⟩
theorem piv_rng1 (hx : XOk X G P SH cl E k) (hgl : glB X.env.scope "range" = true) (hs : noStar eb = true) (hb : PEv X G E P cl b eb) : PI X tg (.Call (.Name "range" p) [eb] [] pos) (tRIb true G E (evI P cl (.rng (.int 0) b))) := by
  refine Ah.PI.imp (pi_range1 (gl_of hgl) (hx.wd.blt _ (by decide +kernel)) (pa_cons hb pa_nil (starEach_cons hs)) (starEach_cons hs)) fun σ H R' ⟨B, env, s, at_, h⟩ => ?_
  rw [evI_rng] at h
  simp only [ev, R.bind_ok] at h
  refine ⟨B, env, s, at_, h.bind fun x s1 vx H1 ex x1 g1 d1 h1 => ?_⟩
  clear ex h
  cases x <;> try (exact h1.elim)
  rename_i j
  have h1 : fin (relI true G B) G E H1 R' (if -1000000 ≤ (0 : Int) ∧ (0 : Int) ≤ 1000000 ∧ -1000000 ≤ j ∧ j ≤ 1000000 then .ok ((List.range (j - 0).toNat).map fun (k : Nat) => D.int (0 + k)) s1 else .no) := h1
  split at h1
  · rename_i hb
    cases d1
    refine ⟨_, rfl, by omega, by omega, ?_⟩
    rw [Int.sub_zero] at h1
    exact h1 _ H1 Ext.refl g1 (fun _ _ => wk_range)
  · exact h1.elim
theorem piv_rng2 (hx : XOk X G P SH cl E k) (hgl : glB X.env.scope "range" = true) (hs : noStar ea = true) (hs2 : noStar eb = true) (ha : PEv X G E P cl a ea) (hb : PEv X G E P cl b eb) : PI X tg (.Call (.Name "range" p) [ea, eb] [] pos) (tRIb true G E (evI P cl (.rng a b))) := by
  refine Ah.PI.imp (pi_range2 (gl_of hgl) (hx.wd.blt _ (by decide +kernel)) (pa_cons ha (pa_cons hb pa_nil (starEach_cons hs2)) (starEach_cons hs)) (by rw [starEach_cons hs, starEach_cons hs2]; rfl) (starEach_cons hs2)) fun σ H R' ⟨B, env, s, at_, h⟩ => ?_
  rw [evI_rng] at h
  refine ⟨B, env, s, at_, h.bind fun x s1 vx H1 _ x1 g1 d1 h1 => ⟨B, env, s1, at_.ext x1 g1, h1.bind fun y s2 vy H2 _ x2 g2 d2 h2 => ?_⟩⟩
  split at h2
  · split at h2
    · rename_i hb
      cases d1; cases d2
      exact ⟨_, _, rfl, ⟨by omega, by omega, by omega, by omega⟩, h2 _ H2 Ext.refl g2 (fun _ _ => wk_range)⟩
    · exact h2.elim
  · exact h2.elim
theorem piv_enm {elts : List Expr} {j : Nat} {tp : Pos} (hx : XOk X G P SH cl E k) (hgl : glB X.env.scope "enumerate" = true) (hs : noStar ea = true) (ha : PEv X G E P cl a ea) : PI X (.Tuple elts j tp) (.Call (.Name "enumerate" p) [ea] [] pos) (tRI G E (evI P cl (.enm a))) := by
  refine Ah.PI.imp (pi_enum (gl_of hgl) (hx.wd.blt _ (by decide +kernel)) (pa_cons ha pa_nil (starEach_cons hs)) (starEach_cons hs)) fun σ H R' ⟨B, env, s, at_, h⟩ => ?_
  unfold evI at h
  simp only [ev, R.bind_assoc] at h
  refine ⟨B, env, s, at_, h.bind fun x s1 vx H1 ex x1 g1 d1 h1 => ?_⟩
  clear ex
  cases d1 <;> try (exact h1.elim)
  rename_i n e l z
  exact ⟨_, _, rfl, .of e, h1 _ H1 Ext.refl g1 (hx.K ▸ wk_enum n e l (at_.ext x1 g1).bok g1.dr)⟩
end
end Ah

/-! ## AhF -/
set_option Elab.async false
set_option linter.all false
set_option maxRecDepth 100000
set_option maxHeartbeats 2000000
/-! Ah: statements and what they are worth. -/
namespace Ah
open PySem PySem.Spec PyProof.Rows L2

inductive Sx where
  | no | pass
  | asg (tg : Tg) (e : C)
  | own (i : Nat) (e : C)
  | par (i j : Nat) (oi oj : Bool) (a b : C)
  | ret (e : C) | retN
  | ife (t : C) (a b : Sx)
  | for_ (tg : Tg) (it : C) (b : Sx)
  | whl (t : C) (b : Sx)
  | rais (c : Nat)
  | app (i : Nat) (e : C)
  | dset (a : C) (x : Str) (e : C)
  | forC (tg : Tg) (a : C) (b : Sx)
  | cApp (i j : Nat) (e : C)
  | pop (i j : Nat)
  | appPop (i j : Nat) (e : C)
  | expr (e : C)
  | slf (c : Nat) (fs : List Str) (as : C)
  | brk | cnt
  | seq (a b : Sx)
/-- slots; which of them hold a list that nothing else holds; the fields that self has got -/
structure Z where
  env : En
  ow : List Nat
  me : List D
inductive Fl where
  | nx (z : Z) | bk (z : Z) | ct (z : Z) | rt (d : D)
mutual
def vars : C → List Nat
  | .var i => [i]
  | .bin _ a b => vars a ++ vars b
  | .neg a => vars a | .not a => vars a
  | .and a b => vars a ++ vars b | .or a b => vars a ++ vars b
  | .ife t a b => vars t ++ vars a ++ vars b
  | .cmp _ a b => vars a ++ vars b
  | .isN a => vars a | .notN a => vars a
  | .chn _ _ a b c => vars a ++ vars b ++ vars c
  | .call _ as => vars as
  | .callK _ _ as kas => vars as ++ vars kas
  | .make _ as => vars as
  | .makeK _ _ as kas => vars as ++ vars kas
  | .blt _ a => vars a
  | .blt2 _ a b => vars a ++ vars b
  | .isi a _ => vars a
  | .att a _ => vars a
  | .idx a b => vars a ++ vars b
  | .sli a l h => vars a ++ vars l ++ vars h
  | .rev a => vars a
  | .tup as => vars as | .lst as => vars as | .dic _ as => vars as
  | .comp _ e _ it c => vars e ++ vars it ++ vars c
  | .comp2 _ e _ it _ it2 c => vars e ++ vars it ++ vars it2 ++ vars c
  | .rng a b => vars a ++ vars b
  | .enm a => vars a
  | .caught e => vars e
  | .dgi a _ => vars a | .dne a => vars a | .dpop a => vars a
  | .cons a r => vars a ++ vars r
  | _ => []
end
def maskF (ow vs : List Nat) : Nat → En → En
  | _, [] => []
  | i, o :: r => (if i ∈ ow ∧ i ∉ vs then none else o) :: maskF ow vs (i + 1) r
def mask (z : Z) (vs : List Nat) : En := maskF z.ow vs 0 z.env
def freeze (z : Z) (vs : List Nat) : Z := { z with ow := z.ow.filter (· ∉ vs) }
def Z.keep (z : Z) (b : Bool) (vs : List Nat) : Z := if b then z else freeze z vs
def Z.set (z : Z) (i : Nat) (d : D) : Z := { z with env := z.env.set i (some d), ow := z.ow.filter (· ≠ i) }
def Z.setO (z : Z) (i : Nat) (d : D) : Z := { z with env := z.env.set i (some d), ow := i :: z.ow.filter (· ≠ i) }
/-- an owned list as it now is -/
def Z.at (z : Z) (i : Nat) : Option (List D) := if i ∈ z.ow then (match z.env[i]? with | some (some (.lst ds)) => some ds | _ => none) else none
def Z.upd (z : Z) (i : Nat) (ds : List D) : Z := { z with env := z.env.set i (some (.lst ds)) }
def Z.puts (z : Z) (tg : Tg) (d : D) : Option Z := (tg.put d z.env).map fun e => { z with env := e, ow := z.ow.filter (· ∉ tg.ixs) }
def lstOf : D → Option (List D) | .lst ds => some ds | _ => none
def isRng : C → Bool | .rng _ _ => true | _ => false
/-- a loop over things -/
def loopF (tg : Tg) (f : Z → Dr → R Fl) : List D → Z → Dr → R Fl
  | [], z, s => .ok (.nx z) s
  | x :: xs, z, s => match z.puts tg x with
    | some z => (f z s).bind fun fl s => match fl with
      | .nx z => loopF tg f xs z s
      | .ct z => loopF tg f xs z s
      | .bk z => .ok (.nx z) s
      | .rt d => .ok (.rt d) s
    | none => .no
def whileF (t : Z → Dr → R Bool) (f : Z → Dr → R Fl) : Nat → Z → Dr → R Fl
  | 0, _, _ => .no
  | n + 1, z, s => (t z s).bind fun b s => if b then (f z s).bind fun fl s => match fl with
      | .nx z => whileF t f n z s
      | .ct z => whileF t f n z s
      | .bk z => .ok (.nx z) s
      | .rt d => .ok (.rt d) s
    else .ok (.nx z) s
def D.isL : D → Bool | .lst _ => true | _ => false
/-- a value stored, owned or not -/
def Z.store (z : Z) (o : Bool) (i : Nat) (d : D) : Option Z := if o then (match d with | .lst ds => if i < z.env.length then some (z.setO i (.lst ds)) else none | _ => none) else some (z.set i d)
/-- data within, of a new list its items -/
def D.immO (o : Bool) (d : D) : Bool := if o then (match d with | .lst ds => D.immL ds | _ => false) else d.imm
def evS (P : Prg) (cl : Cl) (fuel : Nat) : Sx → Z → Dr → R Fl
  | .no, _, _ => .no
  | .pass, z, s => .ok (.nx z) s
  | .asg tg e, z, s => (ev P cl e (mask z (vars e)) s).bind fun d s => match (z.keep d.imm (vars e)).puts tg d with | some z => .ok (.nx z) s | none => .no
  | .own i e, z, s => (ev P cl e (mask z (vars e)) s).bind fun d s => match (z.keep (d.immO true) (vars e)).store true i d with | some z => .ok (.nx z) s | none => .no
  | .par i j oi oj a b, z, s => (ev P cl a (mask z (vars a ++ vars b)) s).bind fun x s => if oi && !x.isL then .no else (ev P cl b (mask z (vars a ++ vars b)) s).bind fun y s => if oj && !y.isL then .no else
      match ((z.keep (x.immO oi && y.immO oj) (vars a ++ vars b)).store oi i x).bind fun z => z.store oj j y with | some z => .ok (.nx z) s | none => .no
  | .ret e, z, s => (ev P cl e z.env s).bind fun d s => .ok (.rt d) s
  | .retN, _, s => .ok (.rt .non) s
  | .ife t a b, z, s => (evB P cl t z.env s).bind fun k s => if k then evS P cl fuel a z s else evS P cl fuel b z s
  | .for_ tg it b, z, s => (evI P cl it (mask z (vars it)) s).bind fun xs s => loopF tg (evS P cl fuel b) xs (z.keep (isRng it) (vars it)) s
  | .whl t b, z, s => whileF (fun z s => evB P cl t z.env s) (evS P cl fuel b) fuel z s
  | .rais c, _, s => .exc c [] s
  | .app i e, z, s => if i ∈ z.ow then (ev P cl e (mask z (vars e)) s).bind fun d s => match (z.keep d.imm (vars e)).at i with
    | some ds => if ds.length < LIM then .ok (.nx ((z.keep d.imm (vars e)).upd i (ds ++ [d]))) s else .no
    | none => .no
    else .no
  | .dset a x e, z, s => (ev P cl e z.env s).bind fun d s => (ev P cl a z.env s).bind fun y s => match y with
    | .drw => (match s.put x d with | some s => .ok (.nx z) s | none => .no)
    | _ => .no
  | .forC tg a b, z, s => ((ev P cl a (mask z (vars a)) s).bind fun y s => match y with | .drw => .ok (s.cells.map .int) s | _ => .no).bind fun xs s => loopF tg (evS P cl fuel b) xs (z.keep true (vars a)) s
  | .cApp i j e, z, s => if i ∈ z.ow then (match ev P cl e (mask z (vars e)) s with
    | .ok d s => (match (z.keep d.imm (vars e)).at i with
      | some ds => if ds.length < LIM then .ok (.nx (((z.keep d.imm (vars e)).upd i (ds ++ [d])).set j .non)) s else .no
      | none => .no)
    | .exc c ds s => .ok (.nx (z.set j (.exc c ds))) s
    | .no => .no)
    else .no
  | .pop i j, z, s => match z.at j with
    | some ds => (match ds.getLast? with | some d => if i ≠ j then .ok (.nx ((z.upd j ds.dropLast).set i d)) s else .no | none => .no)
    | none => .no
  | .appPop i j e, z, s => match z.at i, z.at j with
    | some is, some js => (ev P cl e z.env s).bind fun k s => (match k with
      | .int k => (match js[k.toNat]? with
        | some d => if 0 ≤ k ∧ i ≠ j ∧ is.length < LIM then .ok (.nx ((z.upd j (js.eraseIdx k.toNat)).upd i (is ++ [d]))) s else .no
        | none => .no)
      | _ => .no)
    | _, _ => .no
  | .expr e, z, s => (ev P cl e z.env s).bind fun _ s => .ok (.nx z) s
  | .slf c fs as, z, s => (evL P cl as (mask z (vars as)) s).bind fun ds s => match P.cls[c]? with
    | some ci => if ds.length = fs.length ∧ (ci.flds.drop z.me.length).take fs.length = fs then .ok (.nx { z.keep (D.immL ds) (vars as) with me := z.me ++ ds }) s else .no
    | none => .no
  | .brk, z, s => .ok (.bk z) s
  | .cnt, z, s => .ok (.ct z) s
  | .seq a b, z, s => (evS P cl fuel a z s).bind fun fl s => match fl with
    | .nx z => evS P cl fuel b z s
    | fl => .ok fl s
end Ah

/-! ## AhR -/
set_option Elab.async false
set_option linter.all false
set_option maxRecDepth 100000
set_option maxHeartbeats 2000000
/-! Ah: where a statement stands. -/
namespace Ah
open PySem PySem.Spec PyProof.Rows L2
/-- an instance that is being made: its address, its dict, its class -/
abbrev Me := Option (Addr × Addr × Nat)
def Bz (B0 : Bar) (ad : Nat → Addr) (ow : List Nat) : Bar := fun a => B0 a ∨ ∃ i ∈ ow, a = ad i
/-- all that stood stands, but the instance that is being made -/
def ExtM (G : G) (M : Me) (H H' : Hp) : Prop := ∀ a o, H a = some o → (∀ m, M = some m → a ≠ m.1) → ¬ isDr G a → (∀ ps, o ≠ .tbl ps) → H' a = some o
structure MeAt (G : G) (M : Me) (B : Bar) (me : List D) (H : Hp) : Prop where
  at_ : ∀ m, M = some m → ∃ vs, H m.1 = some (.ins (G.cls m.2.2).1 m.2.1 (((G.cls m.2.2).2.take vs.length).zip vs)) ∧ vs.length ≤ (G.cls m.2.2).2.length ∧ DenL G B H me vs
structure SAt (G : G) (M : Me) (B0 : Bar) (H0 : Hp) (ad : Nat → Addr) (z : Z) (s : Dr) (σ : L2.St) (H : Hp) : Prop where
  len : z.env.length = σ.length
  val : ∀ (i : Nat) (d : D), z.env[i]? = some (some d) → i ∉ z.ow → ∃ v, σ[i]? = some (some v) ∧ Den G (Bz B0 ad z.ow) H d v
  own : ∀ i ∈ z.ow, ∃ ds vs, z.env[i]? = some (some (.lst ds)) ∧ σ[i]? = some (some (.ref (ad i))) ∧ H (ad i) = some (.lst vs) ∧ DenL G (Bz B0 ad z.ow) H ds vs ∧ ds.length ≤ LIM ∧ Nw H0 (ad i) ∧ ¬ B0 (ad i)
  inj : ∀ i ∈ z.ow, ∀ j ∈ z.ow, ad i = ad j → i = j
  bok : BOk G B0 H
  good : Good G s H
  ext : ExtM G M H0 H
  me : MeAt G M (Bz B0 ad z.ow) z.me H
  mb : ∀ m, M = some m → B0 m.1
  ms : ∀ m, M = some m → σ[0]? = some (some (.ref m.1))
/-- from one point of a body to a later one -/
structure Stp (G : G) (B : Bar) (H : Hp) (B' : Bar) (H' : Hp) : Prop where
  ext : ExtX G B H H'
  stay : ∀ a o, H a = some o → (∀ ps, o ≠ .tbl ps) → ∃ o', H' a = some o' ∧ ∀ ps, o' ≠ .tbl ps
  bar : ∀ b, B' b → B b ∨ Nw H b
section
variable {G : G} {M : Me} {B B' B0 B1 B2 : Bar} {H H' H0 H1 H2 : Hp} {s s' s1 : Dr} {ad ad' : Nat → Addr} {z z' z1 : Z} {σ σ' : L2.St}
theorem Stp.refl : Stp G B H B H := ⟨ExtX.refl, fun _ o h t => ⟨o, h, t⟩, fun _ h => .inl h⟩
theorem Stp.trans (x : Stp G B H B1 H1) (y : Stp G B1 H1 B2 H2) : Stp G B H B2 H2 := by
  refine ⟨fun a o h n t l => ?_, fun a o h t => ?_, fun b h => ?_⟩
  · refine y.ext a o (x.ext a o h n t l) n t fun hb => ?_
    rcases x.bar a hb with w | w
    · exact l w
    · exact (w.no h t).elim
  · obtain ⟨o1, h1, t1⟩ := x.stay a o h t
    exact y.stay a o1 h1 t1
  · rcases y.bar b h with w | w
    · exact x.bar b w
    · refine .inr fun o e => Classical.byContradiction fun ht => ?_
      obtain ⟨o1, h1, t1⟩ := x.stay b o e fun ps z => ht ⟨ps, z⟩
      exact w.no h1 t1
theorem Stp.of (x : Ext G H H') (g : DrAt G s H') : Stp G B H B H' := ⟨x.x, fun a o h t => by
  by_cases hd : isDr G a
  · exact g.there hd
  · exact ⟨o, x a o h hd t, t⟩, fun _ h => .inl h⟩
theorem Stp.less (x : Stp G B H B1 H1) (h : ∀ b, B2 b → B1 b) : Stp G B H B2 H1 := ⟨x.ext, x.stay, fun b hb => x.bar b (h b hb)⟩
/-! ### masks -/
theorem maskF_get {ow vs : List Nat} : ∀ {env : En} {k i : Nat}, (maskF ow vs k env)[i]? = (env[i]?).map fun o => if k + i ∈ ow ∧ k + i ∉ vs then none else o
  | [], k, i => by simp [maskF]
  | o :: r, k, 0 => by simp [maskF]
  | o :: r, k, i + 1 => by
    have e : k + 1 + i = k + (i + 1) := by omega
    rw [maskF, List.getElem?_cons_succ, maskF_get, List.getElem?_cons_succ, e]
theorem maskF_len {ow vs : List Nat} : ∀ {env : En} {k : Nat}, (maskF ow vs k env).length = env.length
  | [], k => rfl
  | o :: r, k => by rw [maskF, List.length_cons, List.length_cons, maskF_len]
theorem mask_get {vs : List Nat} {i : Nat} {d : D} (h : (mask z vs)[i]? = some (some d)) : z.env[i]? = some (some d) ∧ ¬ (i ∈ z.ow ∧ i ∉ vs) := by
  unfold mask at h
  rw [maskF_get, Nat.zero_add] at h
  obtain ⟨o, h1, h2⟩ := Option.map_eq_some_iff.mp h
  by_cases hc : i ∈ z.ow ∧ i ∉ vs
  · rw [if_pos hc] at h2; cases h2
  · rw [if_neg hc] at h2; exact ⟨by rw [h1, h2], hc⟩
abbrev Bm (B0 : Bar) (ad : Nat → Addr) (z : Z) (vs : List Nat) : Bar := Bz B0 ad (z.ow.filter (· ∉ vs))
theorem Bm_sub {vs : List Nat} {a : Addr} (h : Bm B0 ad z vs a) : Bz B0 ad z.ow a := by
  rcases h with h | ⟨i, hi, e⟩
  · exact .inl h
  · exact .inr ⟨i, (List.mem_filter.mp hi).1, e⟩
theorem SAt.bz (a : SAt G M B0 H0 ad z s σ H) : BOk G (Bz B0 ad z.ow) H := ⟨fun b hb => by
  rcases hb with h | ⟨i, hi, rfl⟩
  · exact a.bok.there b h
  · obtain ⟨ds, vs, _, _, h, _⟩ := a.own i hi
    exact ⟨_, h, fun _ z => nomatch z⟩, fun b h => .inl (a.bok.dr b h)⟩
theorem SAt.drz (a : SAt G M B0 H0 ad z s σ H) (b : Addr) (h : isDr G b) : Bz B0 ad z.ow b := .inl (a.bok.dr b h)
/-- all slots read, no owned list barred -/
theorem SAt.full (a : SAt G M B0 H0 ad z s σ H) : At G B0 z.env s σ H := by
  refine ⟨⟨fun i d e => ?_, a.len⟩, a.bok, a.good⟩
  by_cases hi : i ∈ z.ow
  · obtain ⟨ds, vs, h1, h2, h3, h4, h5, h6, h7⟩ := a.own i hi
    rw [h1] at e
    cases e
    exact ⟨_, h2, .lst h7 h3 (h4.mono fun b h => .inl h) h5⟩
  · obtain ⟨v, h1, h2⟩ := a.val i d e hi
    exact ⟨v, h1, h2.mono fun b h => .inl h⟩
/-- the lists that are named are not barred -/
theorem SAt.masked (a : SAt G M B0 H0 ad z s σ H) (vs : List Nat) : At G (Bm B0 ad z vs) (mask z vs) s σ H := by
  refine ⟨⟨fun i d e => ?_, by unfold mask; rw [maskF_len]; exact a.len⟩, ⟨fun b hb => a.bz.there b (Bm_sub hb), fun b h => .inl (a.bok.dr b h)⟩, a.good⟩
  obtain ⟨e, hc⟩ := mask_get e
  by_cases hi : i ∈ z.ow
  · obtain ⟨ds, us, h1, h2, h3, h4, h5, h6, h7⟩ := a.own i hi
    rw [h1] at e
    cases e
    refine ⟨_, h2, .lst (fun hb => ?_) h3 (h4.mono fun b h => Bm_sub h) h5⟩
    rcases hb with hb | ⟨j, hj, ej⟩
    · exact h7 hb
    · obtain ⟨hj1, hj2⟩ := List.mem_filter.mp hj
      have := a.inj i hi j hj1 ej
      subst this
      exact hc ⟨hi, by simpa using hj2⟩
  · obtain ⟨v, h1, h2⟩ := a.val i d e hi
    exact ⟨v, h1, h2.mono fun b h => Bm_sub h⟩
theorem MeAt.ext0 {me : List D} (a : MeAt G M B me H) (x : Ext G H H') (g : DrAt G s H) (hd : ∀ b, isDr G b → B b) : MeAt G M B me H' := ⟨fun m e => by
  obtain ⟨vs, h1, h2, h3⟩ := a.at_ m e
  exact ⟨vs, x _ _ h1 (isDr_not g h1 (fun _ z => nomatch z) fun _ z => nomatch z) (fun _ z => nomatch z), h2, DenL.ext0 x g _ hd h3⟩⟩
theorem ExtM.trans (x : ExtM G M H H1) (y : Ext G H1 H2) : ExtM G M H H2 := fun a o e m n t => y a o (x a o e m n t) n t
/-- time goes by -/
theorem SAt.later (a : SAt G M B0 H0 ad z s σ H) (x : Ext G H H') (g : Good G s' H') : SAt G M B0 H0 ad z s' σ H' := by
  refine ⟨a.len, fun i d e hi => ?_, fun i hi => ?_, a.inj, a.bok.ext x g.dr, g, a.ext.trans x, a.me.ext0 x a.good.dr a.drz, a.mb, a.ms⟩
  · obtain ⟨v, h1, h2⟩ := a.val i d e hi
    exact ⟨v, h1, Den.ext0 x a.good.dr d a.drz h2⟩
  · obtain ⟨ds, us, h1, h2, h3, h4, h5, h6, h7⟩ := a.own i hi
    exact ⟨ds, us, h1, h2, x _ _ h3 (fun hd => h7 (a.bok.dr _ hd)) (fun _ z => nomatch z), DenL.ext0 x a.good.dr ds a.drz h4, h5, h6, h7⟩
theorem Bz_less {ow ow' : List Nat} (h : ∀ i ∈ ow', i ∈ ow) : ∀ b, Bz B0 ad ow' b → Bz B0 ad ow b := fun b hb => by
  rcases hb with hb | ⟨i, hi, e⟩
  · exact .inl hb
  · exact .inr ⟨i, h i hi, e⟩
theorem MeAt.mono {me : List D} (a : MeAt G M B me H) (h : ∀ b, B' b → B b) : MeAt G M B' me H := ⟨fun m e => by
  obtain ⟨vs, h1, h2, h3⟩ := a.at_ m e
  exact ⟨vs, h1, h2, h3.mono h⟩⟩
/-- some lists are owned no longer -/
theorem SAt.drop (a : SAt G M B0 H0 ad z s σ H) {p : Nat → Bool} : SAt G M B0 H0 ad { z with ow := z.ow.filter p } s σ H := by
  have sub : ∀ i ∈ z.ow.filter p, i ∈ z.ow := fun i hi => (List.mem_filter.mp hi).1
  refine ⟨a.len, fun i d e hi => ?_, fun i hi => ?_, fun i hi j hj => a.inj i (sub i hi) j (sub j hj), a.bok, a.good, a.ext, a.me.mono (Bz_less sub), a.mb, a.ms⟩
  · by_cases ho : i ∈ z.ow
    · obtain ⟨ds, us, h1, h2, h3, h4, h5, h6, h7⟩ := a.own i ho
      rw [show z.env[i]? = some (some d) from e] at h1
      cases h1
      refine ⟨_, h2, .lst (fun hb => ?_) h3 (h4.mono (Bz_less sub)) h5⟩
      rcases hb with hb | ⟨j, hj, ej⟩
      · exact h7 hb
      · have := a.inj i ho j (sub j hj) ej
        subst this
        exact hi hj
    · obtain ⟨v, h1, h2⟩ := a.val i d e ho
      exact ⟨v, h1, h2.mono (Bz_less sub)⟩
  · obtain ⟨ds, us, h1, h2, h3, h4, h5, h6, h7⟩ := a.own i (sub i hi)
    exact ⟨ds, us, h1, h2, h3, h4.mono (Bz_less sub), h5, h6, h7⟩
theorem keep_sub {b : Bool} {vs : List Nat} : ∀ i ∈ (z.keep b vs).ow, i ∈ z.ow := fun i hi => by
  cases b with
  | true => exact hi
  | false => exact (List.mem_filter.mp hi).1
theorem keep_env {b : Bool} {vs : List Nat} : (z.keep b vs).env = z.env ∧ (z.keep b vs).me = z.me := by cases b <;> exact ⟨rfl, rfl⟩
theorem SAt.keep (a : SAt G M B0 H0 ad z s σ H) (b : Bool) (vs : List Nat) : SAt G M B0 H0 ad (z.keep b vs) s σ H := by
  cases b with
  | true => exact a
  | false => exact a.drop
/-- what came of named things, under the bars behind it -/
theorem SAt.came (a : SAt G M B0 H0 ad z s σ H) {b : Bool} {vs : List Nat} {d : D} {v : V} (hb : b = true → d.imm = true) (h : Den G (Bm B0 ad z vs) H d v) : Den G (Bz B0 ad (z.keep b vs).ow) H d v := by
  cases b with
  | false => exact h
  | true =>
    refine Den.imm0 d (hb rfl) (fun c hc => ?_) h
    rcases hc with hc | ⟨i, hi, rfl⟩
    · exact .inl (.inl hc)
    · obtain ⟨ds, us, _, _, h3, _⟩ := a.own i hi
      exact .inr ⟨us, h3⟩
theorem SAt.cameL (a : SAt G M B0 H0 ad z s σ H) {b : Bool} {vs : List Nat} {ds : List D} {us : List V} (hb : b = true → D.immL ds = true) (h : DenL G (Bm B0 ad z vs) H ds us) : DenL G (Bz B0 ad (z.keep b vs).ow) H ds us := by
  cases b with
  | false => exact h
  | true =>
    refine DenL.imm0 ds (hb rfl) (fun c hc => ?_) h
    rcases hc with hc | ⟨i, hi, rfl⟩
    · exact .inl (.inl hc)
    · obtain ⟨_, us, _, _, h3, _⟩ := a.own i hi
      exact .inr ⟨us, h3⟩
/-- a slot set -/
theorem SAt.set (a : SAt G M B0 H0 ad z s σ H) {i : Nat} {d : D} {v : V} (h0 : M = none ∨ i ≠ 0) (h : Den G (Bz B0 ad z.ow) H d v) : SAt G M B0 H0 ad (z.set i d) s (σ.set i (some v)) H := by
  have sub : ∀ j ∈ z.ow.filter (· ≠ i), j ∈ z.ow := fun j hj => (List.mem_filter.mp hj).1
  have ne : ∀ j ∈ z.ow.filter (· ≠ i), i ≠ j := fun j hj e => by
    have := (List.mem_filter.mp hj).2
    simp [e] at this
  have b := a.drop (p := (· ≠ i))
  refine ⟨by unfold Z.set; rw [List.length_set, List.length_set]; exact a.len, fun j d' e hj => ?_, fun j hj => ?_, b.inj, b.bok, b.good, b.ext, b.me, b.mb, fun m e => (List.getElem?_set_ne (h0.resolve_left fun w => by rw [w] at e; cases e)).trans (b.ms m e)⟩
  · by_cases hji : i = j
    · subst hji
      have e : (z.env.set i (some d))[i]? = some (some d') := e
      by_cases hl : i < z.env.length
      · rw [List.getElem?_set_self hl] at e
        cases e
        exact ⟨v, by rw [List.getElem?_set_self (by rw [← a.len]; exact hl)], h.mono (Bz_less sub)⟩
      · rw [List.getElem?_eq_none (by rw [List.length_set]; omega)] at e; cases e
    · have e : (z.env.set i (some d))[j]? = some (some d') := e
      rw [List.getElem?_set_ne hji] at e
      obtain ⟨w, h1, h2⟩ := b.val j d' e hj
      exact ⟨w, by rw [List.getElem?_set_ne hji]; exact h1, h2⟩
  · obtain ⟨ds, us, h1, h2, h3⟩ := b.own j hj
    exact ⟨ds, us, by show (z.env.set i (some d))[j]? = _; rw [List.getElem?_set_ne (ne j hj)]; exact h1, by rw [List.getElem?_set_ne (ne j hj)]; exact h2, h3⟩
/-- a list that is new stands barred -/
theorem SAt.newbar (a : SAt G M B0 H0 ad z s σ H) {p : Addr} {us : List V} (hp : Nw H p) (nB : ¬ B0 p) (x : Ext G H H') (g : Good G s' H') (hp' : H' p = some (.lst us)) : SAt G M (fun b => B0 b ∨ b = p) H0 ad z s' σ H' ∧ Nw H0 p := by
  have l := a.later x g
  have sw : ∀ b, Bz (fun b => B0 b ∨ b = p) ad z.ow b → Bz B0 ad z.ow b ∨ Nw H b := fun b hb => by
    rcases hb with (hb | rfl) | hb
    · exact .inl (.inl hb)
    · exact .inr hp
    · exact .inl (.inr hb)
  have dz : ∀ b, isDr G b → Bz (fun b => B0 b ∨ b = p) ad z.ow b := fun b h => .inl (.inl (a.bok.dr b h))
  refine ⟨⟨a.len, fun i d e hi => ?_, fun i hi => ?_, a.inj, ⟨fun b hb => ?_, fun b h => .inl (a.bok.dr b h)⟩, g, l.ext, ⟨fun m e => ?_⟩, fun m e => .inl (a.mb m e), a.ms⟩, fun o e => Classical.byContradiction fun ht => ?_⟩
  · obtain ⟨v, h1, h2⟩ := a.val i d e hi
    exact ⟨v, h1, Den.ext0 x a.good.dr d dz (Den.bar d sw h2)⟩
  · obtain ⟨ds, ws, h1, h2, h3, h4, h5, h6, h7⟩ := a.own i hi
    refine ⟨ds, ws, h1, h2, x _ _ h3 (fun hd => h7 (a.bok.dr _ hd)) (fun _ z => nomatch z), DenL.ext0 x a.good.dr ds dz (DenL.bar ds sw h4), h5, h6, fun hb => hb.elim h7 fun z => ?_⟩
    exact Nw.no hp (o := .lst ws) (by rw [← z]; exact h3) (fun _ w => nomatch w)
  · rcases hb with hb | rfl
    · exact l.bok.there b hb
    · exact ⟨_, hp', fun _ z => nomatch z⟩
  · obtain ⟨ws, h1, h2, h3⟩ := a.me.at_ m e
    exact ⟨ws, x _ _ h1 (isDr_not a.good.dr h1 (fun _ z => nomatch z) fun _ z => nomatch z) (fun _ z => nomatch z), h2, DenL.ext0 x a.good.dr _ dz (DenL.bar _ sw h3)⟩
  · have := a.ext p o e (fun m hm z => nB (by rw [z]; exact a.mb m hm)) (fun hd => nB (a.bok.dr p hd)) fun ps z => ht ⟨ps, z⟩
    exact ht (hp o this)
/-- it becomes owned -/
theorem SAt.setO {p : Addr} (a : SAt G M (fun b => B0 b ∨ b = p) H0 ad z s σ H) (b0 : BOk G B0 H) {i : Nat} {ds : List D} {us : List V} (mb : ∀ m, M = some m → B0 m.1) (nB : ¬ B0 p) (nH : Nw H0 p) (e : H p = some (.lst us)) (h : DenL G (Bz (fun b => B0 b ∨ b = p) ad z.ow) H ds us) (hl : ds.length ≤ LIM) (hi : i < z.env.length) (h0 : M = none ∨ i ≠ 0) :
    SAt G M B0 H0 (fun j => if j = i then p else ad j) (z.setO i (.lst ds)) s (σ.set i (some (.ref p))) H := by
  have sub : ∀ j ∈ z.ow.filter (· ≠ i), j ∈ z.ow := fun j hj => (List.mem_filter.mp hj).1
  have ne : ∀ j ∈ z.ow.filter (· ≠ i), j ≠ i := fun j hj e => by
    have := (List.mem_filter.mp hj).2
    simp [e] at this
  have np : ∀ j ∈ z.ow, ad j ≠ p := fun j hj ej => by
    obtain ⟨_, _, _, _, _, _, _, _, h7⟩ := a.own j hj
    exact h7 (.inr ej)
  have less : ∀ b, Bz B0 (fun j => if j = i then p else ad j) (i :: z.ow.filter (· ≠ i)) b → Bz (fun b => B0 b ∨ b = p) ad z.ow b := fun b hb => by
    rcases hb with hb | ⟨j, hj, rfl⟩
    · exact .inl (.inl hb)
    · rcases List.mem_cons.mp hj with rfl | hj
      · exact .inl (.inr (by simp))
      · exact .inr ⟨j, sub j hj, by simp [ne j hj]⟩
  refine ⟨by unfold Z.setO; rw [List.length_set, List.length_set]; exact a.len, fun j d' e' hj => ?_, fun j hj => ?_, fun j hj m hm ejm => ?_, b0, a.good, a.ext, a.me.mono less, mb, fun m e => (List.getElem?_set_ne (h0.resolve_left fun w => by rw [w] at e; cases e)).trans (a.ms m e)⟩
  · have hj : j ∉ i :: z.ow.filter (· ≠ i) := hj
    have hji : i ≠ j := fun z => hj (by rw [z]; exact List.mem_cons_self)
    have e' : (z.env.set i (some (.lst ds)))[j]? = some (some d') := e'
    rw [List.getElem?_set_ne hji] at e'
    obtain ⟨w, h1, h2⟩ := a.val j d' e' fun ho => hj (List.mem_cons_of_mem _ (List.mem_filter.mpr ⟨ho, by simpa using fun z => hji z.symm⟩))
    exact ⟨w, by rw [List.getElem?_set_ne hji]; exact h1, h2.mono less⟩
  · have hj : j ∈ i :: z.ow.filter (· ≠ i) := hj
    by_cases hji : j = i
    · subst hji
      refine ⟨ds, us, ?_, ?_, by simp [e], h.mono less, hl, by simp [nH], by simp [nB]⟩
      · show (z.env.set j _)[j]? = _
        rw [List.getElem?_set_self hi]
      · rw [List.getElem?_set_self (by rw [← a.len]; exact hi)]; simp
    · have hj := (List.mem_cons.mp hj).resolve_left hji
      obtain ⟨es, ws, h1, h2, h3, h4, h5, h6, h7⟩ := a.own j (sub j hj)
      refine ⟨es, ws, ?_, ?_, by simp [hji, h3], h4.mono less, h5, by simp [hji, h6], by simp only [hji, if_false]; exact fun z => h7 (.inl z)⟩
      · show (z.env.set i _)[j]? = _
        rw [List.getElem?_set_ne (fun z => hji z.symm)]; exact h1
      · rw [List.getElem?_set_ne (fun z => hji z.symm)]; simp [hji, h2]
  · have hj : j ∈ i :: z.ow.filter (· ≠ i) := hj
    have hm : m ∈ i :: z.ow.filter (· ≠ i) := hm
    by_cases h1 : j = i <;> by_cases h2 : m = i
    · rw [h1, h2]
    · simp [h1, h2] at ejm
      exact absurd ejm.symm (np m (sub m ((List.mem_cons.mp hm).resolve_left h2)))
    · simp [h1, h2] at ejm
      exact absurd ejm (np j (sub j ((List.mem_cons.mp hj).resolve_left h1)))
    · simp [h1, h2] at ejm
      exact a.inj j (sub j ((List.mem_cons.mp hj).resolve_left h1)) m (sub m ((List.mem_cons.mp hm).resolve_left h2)) ejm
/-- an owned list written -/
theorem SAt.upd (a : SAt G M B0 H0 ad z s σ H) {i : Nat} (hi : i ∈ z.ow) {ds : List D} {us : List V} (h : DenL G (Bz B0 ad z.ow) H ds us) (hl : ds.length ≤ LIM) : SAt G M B0 H0 ad (z.upd i ds) s σ (L2.upd H (ad i) (.lst us)) ∧ Stp G (Bz B0 ad z.ow) H (Bz B0 ad z.ow) (L2.upd H (ad i) (.lst us)) := by
  obtain ⟨ds0, us0, k1, k2, k3, k4, k5, k6, k7⟩ := a.own i hi
  have bi : Bz B0 ad z.ow (ad i) := .inr ⟨i, hi, rfl⟩
  have nd : ¬ isDr G (ad i) := fun hd => k7 (a.bok.dr _ hd)
  have hil : i < z.env.length := (List.getElem?_eq_some_iff.mp k1).1
  have th : ∀ b o, H b = some o → (∀ ps, o ≠ .tbl ps) → ∃ o', L2.upd H (ad i) (.lst us) b = some o' ∧ ∀ ps, o' ≠ .tbl ps := fun b o e t => by
    by_cases hb : b = ad i
    · subst hb; exact ⟨_, upd_same, fun _ z => nomatch z⟩
    · exact ⟨o, by rw [upd_ne hb]; exact e, t⟩
  refine ⟨⟨by unfold Z.upd; rw [List.length_set]; exact a.len, fun j d e hj => ?_, fun j hj => ?_, a.inj, ⟨fun b hb => ?_, a.bok.dr⟩, a.good.wr nd k3, fun b o e m n t => ?_, ⟨fun m e => ?_⟩, a.mb, a.ms⟩, fun b o e n t l => ?_, th, fun _ h => .inl h⟩
  · have hji : i ≠ j := fun z => hj (z ▸ hi)
    have e : (z.env.set i (some (.lst ds)))[j]? = some (some d) := e
    rw [List.getElem?_set_ne hji] at e
    obtain ⟨v, h1, h2⟩ := a.val j d e hj
    exact ⟨v, h1, Den.wr0 bi k3 d h2⟩
  · by_cases hji : i = j
    · subst hji
      exact ⟨ds, us, by show (z.env.set i _)[i]? = _; rw [List.getElem?_set_self hil], k2, upd_same, DenL.wr0 bi k3 ds h, hl, k6, k7⟩
    · obtain ⟨es, ws, h1, h2, h3, h4, h5, h6, h7⟩ := a.own j hj
      exact ⟨es, ws, by show (z.env.set i _)[j]? = _; rw [List.getElem?_set_ne hji]; exact h1, h2, by rw [upd_ne (fun z => hji (a.inj i hi j hj z.symm))]; exact h3, DenL.wr0 bi k3 es h4, h5, h6, h7⟩
  · obtain ⟨o, e, t⟩ := a.bok.there b hb
    exact th b o e t
  · have hb : b ≠ ad i := fun z => k6.no (z ▸ e) t
    rw [upd_ne hb]; exact a.ext b o e m n t
  · obtain ⟨ws, h1, h2, h3⟩ := a.me.at_ m e
    exact ⟨ws, wr_ne h1 k3 (fun z => nomatch z), h2, DenL.wr0 bi k3 _ h3⟩
  · by_cases hb : b = ad i
    · subst hb
      rw [k3] at e
      cases e
      exact absurd rfl ((l bi).l us0)
    · rw [upd_ne hb]; exact e
end
end Ah

/-! ## AhN -/
set_option Elab.async false
set_option linter.all false
set_option maxRecDepth 100000
set_option maxHeartbeats 2000000
/-! Ah: new lists; statements by rules. -/
namespace Ah
open PySem PySem.Spec PyProof.Rows L2
/-- what is wanted of a result that is a new list -/
def finF (G : G) (E : XK) (B : Bar) (H : Hp) (Q : VK) : R D → Prop
  | .ok (.lst ds) s => ∀ p vs H', Nw H p → ¬ B p → Ext G H H' → Good G s H' → H' p = some (.lst vs) → DenL G (fun b => B b ∨ b = p) H' ds vs → ds.length ≤ LIM → Q (.ref p) H'
  | .exc c ds s => ∀ cls d H', Ext G H H' → Good G s H' → IsX G H' c ds cls d → E cls d H'
  | _ => False
def tRF (G : G) (E : XK) (r : En → Dr → R D) : TE := fun σ H Q => ∃ B env s, At G B env s σ H ∧ finF G E B H Q (r env s)
abbrev PFv (X : Cx) (G : Ah.G) (E : XK) (P : Prg) (cl : Cl) (c : C) (e : Expr) : Prop := PE X e (tRF G E (ev P cl c))
section
variable {X : Cx} {G : Ah.G} {E : XK} {P : Prg} {SH : Shapes} {cl : Cl} {k : Nat} {pos p : Pos} {e ea eb ec tg it elt : Expr} {a b c ci ce cc : C} {es : List Expr} {t : Stat} {B B' B0 : Bar} {H H' H0 H1 : Hp} {s s' s1 : Dr}
theorem Nw.back {q : Addr} (x : Ext G H H1) (g : DrAt G s H1) (h : H1 q = none) : Nw H q := fun o e => Classical.byContradiction fun ht => by
  by_cases hd : isDr G q
  · obtain ⟨o', e', _⟩ := g.there hd
    rw [h] at e'; cases e'
  · have := x q o e hd fun ps z => ht ⟨ps, z⟩
    rw [h] at this; cases this
/-- things first, then the list -/
theorem finF.bind {γ δ : Type} {rel' : Hp → γ → δ → Prop} {r : R γ} {kk : γ → Dr → R D} {Q : VK} {Q' : δ → Hp → Prop} (h : finF G E B H Q (r.bind kk))
    (hk : ∀ x s1 b H', r = .ok x s1 → Ext G H H' → Good G s1 H' → rel' H' x b → finF G E B H' Q (kk x s1) → Q' b H') : fin rel' G E H Q' r := by
  cases r with
  | ok x s1 =>
    intro b H' y g q
    refine hk x s1 b H' rfl y g q ?_
    have h : finF G E B H Q (kk x s1) := h
    cases hr : kk x s1 with
    | ok d s2 =>
      rw [hr] at h
      cases d <;> try (exact h.elim)
      intro p vs H2 n nB x2 g2 e l z
      refine h p vs H2 (fun o e0 => Classical.byContradiction fun ht => ?_) nB (y.trans x2) g2 e l z
      by_cases hd : isDr G p
      · obtain ⟨o', e', t'⟩ := g.dr.there hd
        exact n.no e' t'
      · exact n.no (y p o e0 hd fun ps z => ht ⟨ps, z⟩) fun ps z => ht ⟨ps, z⟩
    | exc c ds s2 =>
      rw [hr] at h
      exact fun cls d H2 x2 g2 q2 => h cls d H2 (y.trans x2) g2 q2
    | no => rw [hr] at h; exact h.elim
  | exc c ds s1 => exact h
  | no => exact h.elim
/-- a list laid at a new place -/
theorem finF.laid {Q : VK} {ds : List D} {vs : List V} {q : Addr} (h : finF G E B H Q (.ok (.lst ds) s)) (bok : BOk G B H) (g : Good G s H) (hq : H q = none) (l : DenL G B H ds vs) (z : ds.length ≤ LIM) : Q (.ref q) (upd H q (.lst vs)) :=
  h q vs _ (.of hq) (bok.none hq) (Ext.upd hq) (g.upd hq) upd_same (DenL.ext0 (Ext.upd hq) g.dr ds (fun b w => .inl (bok.dr b w)) (l.new hq)) z
theorem pf_lst (ha : PAv X G E P cl a es) : PFv X G E P cl (.lst a) (.List es pos) := by
  refine PE.imp (pe_lst ha) fun σ H Q ⟨B, env, s, at_, h⟩ => ?_
  simp only [ev] at h
  rw [lim_bind] at h
  refine ⟨B, env, s, at_, h.bind fun xs s1 vs H1 _ x1 g1 d1 h1 => ?_⟩
  split at h1
  · rename_i z
    exact ⟨by rw [← d1.length]; exact le_line z, fun p hp => h1.laid (at_.ext x1 g1).bok g1 hp d1 z⟩
  · exact h1.elim
theorem finF_ofO {Q : VK} {o : Option D} (h : finF G E B H Q (ofO o s)) : ∃ ds, o = some (.lst ds) ∧ finF G E B H Q (.ok (.lst ds) s) := by
  cases o with
  | none => exact h.elim
  | some d => cases d <;> first | exact h.elim | exact ⟨_, rfl, h⟩
theorem pf_list (hx : XOk X G P SH cl E k) (hgl : glB X.env.scope "list" = true) (hs : noStar ea = true) (ha : PEv X G E P cl a ea) : PFv X G E P cl (.blt .list a) (.Call (.Name "list" p) [ea] [] pos) := by
  refine PE.imp (pe_blt1 (callr_W (f := .type "list")) (gl_of hgl) (hx.wd.blt _ (by decide +kernel)) boot_list (by decide +kernel) hs ha (.inr ⟨_, rfl⟩)) fun σ H Q ⟨B, env, s, at_, h⟩ => ?_
  simp only [ev] at h
  refine ⟨B, env, s, at_, h.bind fun x s1 vx H1 _ x1 g1 d1 h1 => ?_⟩
  obtain ⟨ds, e1, h1⟩ := finF_ofO h1
  exact list_okG hx e1 d1 fun ds' vs q e z l hp => by cases e; exact h1.laid (at_.ext x1 g1).bok g1 hp l z
theorem pf_add (hK : G.K = X.K) (ha : PEv X G E P cl a ea) (hb : PEv X G E P cl b eb) : PFv X G E P cl (.bin .Add a b) (.BinOp ea .Add eb pos) := by
  refine PE.imp (pe_op opr_W ha hb) fun σ H Q ⟨B, env, s, at_, h⟩ => ?_
  simp only [ev] at h
  refine ⟨B, env, s, at_, h.bind fun x s1 vx H1 ex1 x1 g1 d1 h1 => ⟨B, env, s1, at_.ext x1 g1, h1.bind fun y s2 vy H2 ex2 x2 g2 d2 h2 => ?_⟩⟩
  clear ex1 ex2
  obtain ⟨ds, e1, h2⟩ := finF_ofO h2
  have at2 := (at_.ext x1 g1).ext x2 g2
  have d1 := d1.ext x2 g1.dr (at_.ext x1 g1).bok
  have sh : ∃ xs ys, x = .lst xs ∧ y = .lst ys ∧ xs.length + ys.length ≤ LIM ∧ ds = xs ++ ys := by
    cases x <;> cases y <;> simp only [opD] at e1 <;> first
      | (cases e1; done)
      | (split at e1
         · cases e1 <;> exact ⟨_, _, rfl, rfl, by assumption, rfl⟩
         · cases e1)
  obtain ⟨xs, ys, rfl, rfl, z, rfl⟩ := sh
  cases d1 with
  | lst n1 f1 l1 z1 =>
    cases d2 with
    | lst n2 f2 l2 z2 =>
      exact rW_of op_cat ⟨_, _, _, _, rfl, rfl, f1, f2, by rw [← l1.length, ← l2.length]; exact le_line z, fun q hq => h2.laid at2.bok g2 hq (l1.append l2) (by rw [List.length_append]; exact z)⟩
theorem lcF_imp {own : List (Str × Nat)} {tgt : Tg} {σ : L2.St} {H : Hp} {Q : VK} (hx : XOk X G P SH cl E k) (hv : ∀ i ∈ tgt.ixs, i ∈ own.map (·.2)) (h : tRF G E (ev P cl (.comp own ce tgt ci cc)) σ H Q) :
    tLc (tRI G E (evI P cl ci)) (tgG X.K tgt) (tRB G E0 (condR P cl cc)) (tR G E0 (ev P cl ce)) (own.map (·.2)) σ H Q := by
  obtain ⟨B, env, s, at_, q⟩ := h
  rw [ev_comp] at q
  refine ⟨B, env, s, at_, q.bind fun xs s1 J H1 _ x1 g1 w q1 => ?_⟩
  intro D hD
  have a1 := at_.ext x1 g1
  cases hm : mapR (stepR P cl tgt ce cc (wipeE env (own.map (·.2)))) xs s1 with
  | ok ys s2 =>
    rw [hm] at q1
    have q1 : finF G E B H1 Q ((R.ok ys s2).lim.bind fun ys s => .ok (.lst ys) s) := q1
    rw [lim_bind] at q1
    simp only [R.bind_ok] at q1
    split at q1
    · rename_i hl
      have nd : ¬ isDr G D := Part.nd (B := B) g1.dr hD
      have r0 := a1.rel.wipe (own.map (·.2))
      refine turns a1.bok hD nd (Part.start g1 hD) (WkD.start w a1.bok hD) hm hl (fun d x s s' l ys1 H' Nx e1 pt _ hd hl' nx => ?_) fun H2 pt _ => ?_
      · exact step_body hx.K a1.bok hD nd hv (wipe_wipe ..) e1 pt hd ((r0.new hD).ext0 pt.ext g1.dr fun a h => .inl (a1.bok.dr a h)) hl' nx
      · obtain ⟨us, e, l⟩ := pt.lst
        exact q1 D us H2 (.of hD) (a1.bok.none hD) pt.ext pt.good e l hl
    · exact q1.elim
  | exc c ds s2 => rw [hm] at q1; exact q1.elim
  | no => rw [hm] at q1; exact q1.elim
theorem pf_comp {own : List (Str × Nat)} {tgt : Tg} {scope : Scope} {ifs : List Expr} (hx : XOk X G P SH cl E k) (hi : PI X tg it (tRI G E (evI P cl ci))) (ok : blkC X.N X.env.scope scope own = true) (hv : ∀ i ∈ tgt.ixs, i ∈ own.map (·.2))
    (hg : ∀ (s : Shared) (H : Hp) (C : Addr) (cl : List (Str × Addr)) (fp : List Addr), PG (X.blk s H scope (compEnvC scope cl C X.env) fp) tg (tgG X.K tgt))
    (ht : ∀ (s : Shared) (H : Hp) (C : Addr) (cls : List (Str × Addr)) (fp : List Addr), PTs (X.blk s H scope (compEnvC scope cls C X.env) fp) ifs (tRB G E0 (condR P cl cc)))
    (he : ∀ (s : Shared) (H : Hp) (C : Addr) (cls : List (Str × Addr)) (fp : List Addr), PEv (X.blk s H scope (compEnvC scope cls C X.env) fp) G E0 P cl ce elt)
    (hs : ∀ x, foldedSetIterable it X.env x = pure x) : PFv X G E P cl (.comp own ce tgt ci cc) (.ListComp elt [⟨tg, it, ifs, 0⟩] scope pos) :=
  PE.imp (pe_lc hx.calm hx.nd hi (blkOk_by ok) hg ht he hs) fun σ H Q h => lcF_imp hx hv h
end
end Ah

/-! ## AhO -/
set_option Elab.async false
set_option linter.all false
set_option maxRecDepth 100000
set_option maxHeartbeats 2000000
/-! Ah: statements by rules. -/
namespace Ah
open PySem PySem.Spec PyProof.Rows L2
/-- what is wanted of a statement's end -/
def finS (G : G) (M : Me) (B0 : Bar) (H0 : Hp) (E : XK) (D : Ends) (B : Bar) (H : Hp) : R Fl → Prop
  | .ok (.nx z) s => ∀ ad σ H', SAt G M B0 H0 ad z s σ H' → Stp G B H (Bz B0 ad z.ow) H' → D.nx σ H'
  | .ok (.bk z) s => ∀ ad σ H', SAt G M B0 H0 ad z s σ H' → Stp G B H (Bz B0 ad z.ow) H' → D.bk σ H'
  | .ok (.ct z) s => ∀ ad σ H', SAt G M B0 H0 ad z s σ H' → Stp G B H (Bz B0 ad z.ow) H' → D.ct σ H'
  | .ok (.rt d) s => ∀ v H', ExtM G M H0 H' → Good G s H' → Den G B0 H' d v → D.rt v H'
  | .exc c ds s => ∀ cls d H', ExtM G M H0 H' → Good G s H' → IsX G H' c ds cls d → E cls d H'
  | .no => False
def tSS (G : G) (M : Me) (E : XK) (r : Z → Dr → R Fl) : TS := fun D σ H => ∃ B0 H0 ad z s, SAt G M B0 H0 ad z s σ H ∧ finS G M B0 H0 E D (Bz B0 ad z.ow) H (r z s)
abbrev PSv (X : Cx) (G : Ah.G) (M : Me) (E : XK) (P : Prg) (cl : Cl) (n : Nat) (c : Sx) (st : Stmt) : Prop := PS X st (tSS G M E (evS P cl n c))
abbrev PSsv (X : Cx) (G : Ah.G) (M : Me) (E : XK) (P : Prg) (cl : Cl) (n : Nat) (c : Sx) (st : List Stmt) : Prop := PSs X st (tSS G M E (evS P cl n c))
theorem PS.imp {X : Cx} {st : Stmt} {t t' : TS} (h : PS X st t) (k : ∀ D σ H, t' D σ H → t D σ H) : PS X st t' := ⟨fun pins s σ H D I q => h.run pins s σ H D I (k D σ H q)⟩
theorem PSs.imp {X : Cx} {st : List Stmt} {t t' : TS} (h : PSs X st t) (k : ∀ D σ H, t' D σ H → t D σ H) : PSs X st t' := ⟨fun pins s σ H D I q => h.run pins s σ H D I (k D σ H q)⟩
section
variable {X : Cx} {G : Ah.G} {M : Me} {E : XK} {P : Prg} {SH : Shapes} {cl : Cl} {k n : Nat} {pos p : Pos} {e ea eb ec tg it elt : Expr} {a b c ci ce cc : C} {es : List Expr} {t : Stat} {B B' B0 B1 : Bar} {H H' H0 H1 : Hp} {s s' s1 : Dr} {ad ad' : Nat → Addr} {z z' : Z} {σ : L2.St} {D : Ends} {st : Stmt} {sts : List Stmt} {sa sb : Sx}
theorem finS.at {r : R Fl} (h : finS G M B0 H0 E D B H r) (x : Stp G B H B1 H1) : finS G M B0 H0 E D B1 H1 r := by
  cases r with
  | ok f s =>
    cases f with
    | nx z => exact fun ad σ H' a y => h ad σ H' a (x.trans y)
    | bk z => exact fun ad σ H' a y => h ad σ H' a (x.trans y)
    | ct z => exact fun ad σ H' a y => h ad σ H' a (x.trans y)
    | rt d => exact h
  | exc c ds s => exact h
  | no => exact h
theorem SAt.stp (a : SAt G M B0 H0 ad z s σ H) (x : Ext G H H') (g : Good G s' H') : Stp G (Bz B0 ad z.ow) H (Bz B0 ad z.ow) H' := Stp.of x g.dr
/-- an expression, then the rest -/
theorem SAt.bind {γ δ : Type} {rel : Hp → γ → δ → Prop} {r : R γ} {kk : γ → Dr → R Fl} {Q : δ → Hp → Prop} (a : SAt G M B0 H0 ad z s σ H) (h : finS G M B0 H0 E D (Bz B0 ad z.ow) H (r.bind kk))
    (hk : ∀ x s1 b H1, Ext G H H1 → Good G s1 H1 → rel H1 x b → SAt G M B0 H0 ad z s1 σ H1 → finS G M B0 H0 E D (Bz B0 ad z.ow) H1 (kk x s1) → Q b H1) : fin rel G E H Q r := by
  cases r with
  | ok x s1 => exact fun b H' y g q => hk x s1 b H' y g q (a.later y g) (finS.at (r := kk x s1) h (Stp.of y g.dr))
  | exc c ds s1 => exact fun cls d H' y g q => h cls d H' (a.ext.trans y) g q
  | no => exact h
theorem nop_ (h : isNop c = isNop c) : True := trivial
theorem sv_no : PSv X G M E P cl n .no st := ⟨fun pins s σ H D I ⟨_, _, _, _, _, _, q⟩ => q.elim⟩
theorem ssv_no : PSsv X G M E P cl n .no sts := ⟨fun pins s σ H D I ⟨_, _, _, _, _, _, q⟩ => q.elim⟩
theorem sv_pass (h : PS X st tNext) : PSv X G M E P cl n .pass st := PS.imp h fun D σ H ⟨B0, H0, ad, z, s, a, q⟩ => q ad σ H a Stp.refl
theorem ssv_pass : PSsv X G M E P cl n .pass [] := PSs.imp pss_nil fun D σ H ⟨B0, H0, ad, z, s, a, q⟩ => q ad σ H a Stp.refl
theorem sv_brk (h : PS X st tBreak) : PSv X G M E P cl n .brk st := PS.imp h fun D σ H ⟨B0, H0, ad, z, s, a, q⟩ => q ad σ H a Stp.refl
theorem sv_cnt (h : PS X st tCont) : PSv X G M E P cl n .cnt st := PS.imp h fun D σ H ⟨B0, H0, ad, z, s, a, q⟩ => q ad σ H a Stp.refl
/-- one statement, then the others -/
theorem ssv_seq (h1 : PSv X G M E P cl n sa st) (h2 : PSsv X G M E P cl n sb sts) : PSsv X G M E P cl n (.seq sa sb) (st :: sts) := by
  refine PSs.imp (pss_cons h1 h2) fun D σ H ⟨B0, H0, ad, z, s, a, q⟩ => ?_
  refine ⟨B0, H0, ad, z, s, a, ?_⟩
  simp only [evS] at q
  cases hr : evS P cl n sa z s with
  | ok f s1 =>
    rw [hr] at q
    simp only [R.bind_ok] at q
    cases f with
    | nx z1 => exact fun ad' σ' H' a' y => ⟨B0, H0, ad', z1, s1, a', q.at y⟩
    | bk z1 => exact q
    | ct z1 => exact q
    | rt d => exact q
  | exc c ds s1 => rw [hr] at q; exact q
  | no => rw [hr] at q; exact q
theorem ssv_one (h1 : PSv X G M E P cl n sa st) : PSsv X G M E P cl n sa [st] := pss_one h1
theorem sv_ret (ha : PEv X G E P cl a ea) : PSv X G M E P cl n (.ret a) (.Return (some ea) pos) := by
  refine PS.imp (ps_ret ha) fun D σ H ⟨B0, H0, ad, z, s, at_, q⟩ => ?_
  simp only [evS] at q
  exact ⟨B0, z.env, s, at_.full, at_.bind (rel := relD G B0) q fun x s1 v H1 x1 g1 d1 a1 q1 => q1 v H1 a1.ext g1 d1⟩
theorem sv_retN : PSv X G M E P cl n .retN (.Return none pos) := PS.imp ps_retN fun D σ H ⟨B0, H0, ad, z, s, a, q⟩ => q .non H a.ext a.good .non
theorem sv_expr (ha : PEv X G E P cl a ea) (hs : swapsWith ea none pos.line X.env = pure false) : PSv X G M E P cl n (.expr a) (.Expr ea pos) := by
  refine PS.imp (ps_expr ha hs) fun D σ H ⟨B0, H0, ad, z, s, at_, q⟩ => ?_
  simp only [evS] at q
  exact ⟨B0, z.env, s, at_.full, at_.bind (rel := relD G B0) q fun x s1 v H1 x1 g1 d1 a1 q1 => q1 ad σ H1 a1 Stp.refl⟩
theorem sv_ife {ss tt : List Stmt} (ha : PTv X G E P cl a ea) (h1 : PSsv X G M E P cl n sa ss) (h2 : PSsv X G M E P cl n sb tt) : PSv X G M E P cl n (.ife a sa sb) (.If ea ss tt pos) := by
  refine PS.imp (ps_if ha h1 h2) fun D σ H ⟨B0, H0, ad, z, s, at_, q⟩ => ?_
  simp only [evS] at q
  refine ⟨B0, z.env, s, at_.full, at_.bind (rel := relB) q fun x s1 b H1 x1 g1 d1 a1 q1 => ?_⟩
  subst d1
  cases x with
  | true => exact ⟨B0, H0, ad, z, s1, a1, q1⟩
  | false => exact ⟨B0, H0, ad, z, s1, a1, q1⟩
theorem sv_rais {x m : Str} {j : Nat} {p2 p3 : Pos} {ci : EcI} {cn : Nat} (hx : XOk X G P SH cl E k) (hci : P.ecs[cn]? = some ci) (hf : ci.flds = []) (hn : ci.name = x) (hgl : glB X.env.scope x = true) (hnm : nmOk x = true) :
    PSv X G M E P cl n (.rais cn) (.Raise (some (.Call (.Name x p) [.Constant (.str m) j p2] [] pos)) none p3) := by
  obtain ⟨hm, hfl, hC⟩ := hx.wd.ecs cn ci hci
  obtain ⟨B, ni, ii, bm, F, q1, q2, q3, q4⟩ := hx.wd.rai cn ci hci hf
  subst hn
  refine PS.imp (ps_raise hx.calm hx.tk (pmk_own F q1 hm q2 (raises_own q3 q4) (gl_of hgl) (nmOk_1 hnm))) fun D σ H ⟨B0, H0, ad, z, s, a, q⟩ => ?_
  exact q _ _ H a.ext a.good ⟨rfl, .inl ⟨hfl.trans hf, rfl, rfl⟩⟩
/-! ### stores -/
theorem filter_ni {ow : List Nat} {i : Nat} {is : List Nat} : (ow.filter (· ≠ i)).filter (· ∉ is) = ow.filter (· ∉ i :: is) := by
  rw [List.filter_filter]
  refine List.filter_congr fun j _ => ?_
  by_cases h1 : j = i <;> by_cases h2 : j ∈ is <;> simp [h1, h2]
theorem gN_run {Q : L2.St → Hp → Prop} : ∀ (is : List Nat) {ds : List Ah.D} {xs : List V} {z : Z} {σ : L2.St}, (∀ i ∈ is, M = none ∨ i ≠ 0) → DenL G (Bz B0 ad z.ow) H ds xs → ds.length = is.length → SAt G M B0 H0 ad z s σ H →
    (∀ σ', SAt G M B0 H0 ad { z with env := (is.zip ds).foldl (fun e p => e.set p.1 (some p.2)) z.env, ow := z.ow.filter (· ∉ is) } s σ' H → Q σ' H) → gNames is xs σ H Q
  | [], [], _, z, σ, _, .nil, _, a, q => ⟨rfl, q σ (by
      have e : z.ow.filter (· ∉ ([] : List Nat)) = z.ow := List.filter_eq_self.mpr fun j _ => by simp
      simp only [List.zip_nil_left, List.foldl_nil, e]; exact a)⟩
  | [], _ :: _, _, z, σ, _, _, h, a, q => by cases h
  | i :: is, [], xs, z, σ, _, d, h, a, q => by cases h
  | i :: is, d0 :: ds, _, z, σ, h0, .cons h t, hl, a, q => by
    refine ⟨_, _, rfl, ?_⟩
    have sub : ∀ j ∈ z.ow.filter (· ≠ i), j ∈ z.ow := fun j hj => (List.mem_filter.mp hj).1
    refine gN_run is (z := z.set i d0) (fun j hj => h0 j (List.mem_cons_of_mem _ hj)) (t.mono (Bz_less sub)) (by simpa using hl) (a.set (h0 i List.mem_cons_self) h) fun σ' a' => q σ' ?_
    have e : (z.set i d0).ow.filter (· ∉ is) = z.ow.filter (· ∉ i :: is) := filter_ni
    rw [e] at a'
    exact a'
theorem puts_run {K : PySem.W.Frag} {Q : L2.St → Hp → Prop} {tgt : Tg} {d : Ah.D} {v : V} (hK : G.K = K) (h0 : ∀ i ∈ tgt.ixs, M = none ∨ i ≠ 0) (a : SAt G M B0 H0 ad z s σ H) (h : Den G (Bz B0 ad z.ow) H d v) (hp : z.puts tgt d = some z') (q : ∀ σ', SAt G M B0 H0 ad z' s σ' H → Q σ' H) : tgG K tgt v σ H Q := by
  obtain ⟨e, h1, rfl⟩ := Option.map_eq_some_iff.mp hp
  cases tgt with
  | nm i =>
    cases h1
    have := a.set (i := i) (h0 i List.mem_cons_self) h
    refine q _ ?_
    have e : z.ow.filter (· ∉ (Tg.nm i).ixs) = z.ow.filter (· ≠ i) := List.filter_congr fun j _ => by simp [Tg.ixs]
    rw [e]; exact this
  | tp is =>
    simp only [Tg.put] at h1
    split at h1
    · rename_i ds
      split at h1
      · rename_i hl
        cases h1
        cases h with
        | tup e1 l zz => exact ⟨_, _, rfl, hK ▸ e1, by rw [← l.length]; exact hl, gN_run is h0 l hl a q⟩
      · cases h1
    · cases h1
theorem puts_sub {tgt : Tg} {d : Ah.D} (hp : z.puts tgt d = some z') : (∀ i ∈ z'.ow, i ∈ z.ow) := by
  obtain ⟨e, h1, rfl⟩ := Option.map_eq_some_iff.mp hp
  exact fun i hi => (List.mem_filter.mp hi).1
theorem sv_asg {te : TE} {tgt : Tg} (hK : G.K = X.K) (h0 : ∀ i ∈ tgt.ixs, M = none ∨ i ≠ 0) (hst : PS X st (tAsg te (tgG X.K tgt))) (himp : ∀ σ H Q, tR G E (ev P cl a) σ H Q → te σ H Q) : PSv X G M E P cl n (.asg tgt a) st := by
  refine PS.imp hst fun D σ H ⟨B0, H0, ad, z, s, at_, q⟩ => ?_
  simp only [evS] at q
  refine himp σ H _ ⟨_, _, s, at_.masked (vars a), at_.bind (rel := relD G (Bm B0 ad z (vars a))) q fun x s1 v H1 x1 g1 d1 a1 q1 => ?_⟩
  split at q1
  · rename_i z1 hz
    refine puts_run hK h0 (a1.keep x.imm (vars a)) (a1.came id d1) hz fun σ' a' => ?_
    exact q1 ad σ' H1 a' (Stp.refl.less fun b hb => Bz_less keep_sub b (Bz_less (puts_sub hz) b hb))
  · exact q1.elim
end
end Ah

/-! ## AhM -/
set_option Elab.async false
set_option linter.all false
set_option maxRecDepth 100000
set_option maxHeartbeats 2000000
/-! Ah: more statements by rules: owned lists, loops. -/
namespace Ah
open PySem PySem.Spec PyProof.Rows L2
section
variable {X : Cx} {G : Ah.G} {M : Me} {E : XK} {P : Prg} {SH : Shapes} {cl : Cl} {k n : Nat} {pos p : Pos} {e ea eb ec tg it elt : Expr} {a b c ci ce cc : C} {es : List Expr} {t : Stat} {B B' B0 B1 : Bar} {H H' H0 H1 : Hp} {s s' s1 : Dr} {ad ad' : Nat → Addr} {z z' : Z} {σ : L2.St} {D : Ends} {st : Stmt} {sts : List Stmt} {sa sb : Sx}
/-- a new list, then the rest -/
theorem SAt.bindF {r : R Ah.D} {kk : Ah.D → Dr → R Fl} {Q : VK} (a : SAt G M B0 H0 ad z s σ H) {B : Bar} {Bf : Bar} {Hs : Hp} (hB0 : ∀ b, B0 b → B b) (h : finS G M Bf H0 E D B' Hs (r.bind kk)) (hl : ∀ x s1, (∃ ds, x = .lst ds) ∨ kk x s1 = .no)
    (hk : ∀ ds vs s1 p H1, SAt G M (fun b => B0 b ∨ b = p) H0 ad z s1 σ H1 → BOk G B0 H1 → Nw H0 p → Nw H p → ¬ B0 p → ¬ B p → H1 p = some (.lst vs) → DenL G (fun b => B b ∨ b = p) H1 ds vs → ds.length ≤ LIM → Ext G H H1 → Good G s1 H1 → finS G M Bf H0 E D B' Hs (kk (.lst ds) s1) → Q (.ref p) H1) : finF G E B H Q r := by
  cases r with
  | ok x s1 =>
    rcases hl x s1 with ⟨ds, rfl⟩ | hno
    · intro p vs H1 nw nB x1 g1 e l hl
      obtain ⟨a1, n0⟩ := a.newbar nw (fun w => nB (hB0 p w)) x1 g1 e
      exact hk ds vs s1 p H1 a1 (a.bok.ext x1 g1.dr) n0 nw (fun w => nB (hB0 p w)) nB e l hl x1 g1 h
    · have h : finS G M Bf H0 E D B' Hs (kk x s1) := h
      rw [hno] at h; exact h.elim
  | exc c ds s1 => exact fun cls d H' y g q => h cls d H' (a.ext.trans y) g q
  | no => exact h.elim
theorem Stp.new (x : Ext G H H1) (g : DrAt G s H1) (h : ∀ b, B1 b → B b ∨ Nw H b) : Stp G B H B1 H1 := ⟨x.x, (Stp.of (B := B) x g).stay, h⟩
theorem sv_own {te : TE} {i : Nat} (h0 : M = none ∨ i ≠ 0) (hst : PS X st (tAsg te (gName i))) (himp : ∀ σ H Q, tRF G E (ev P cl a) σ H Q → te σ H Q) : PSv X G M E P cl n (.own i a) st := by
  refine PS.imp hst fun D σ H ⟨B0, H0, ad, z, s, at_, q⟩ => ?_
  simp only [evS] at q
  refine himp σ H _ ⟨_, _, s, at_.masked (vars a), at_.bindF (fun b h => .inl h) q (fun x s1 => ?_) fun ds vs s1 p H1 a1 b1 n0 hp nB0 nB e l hl x1 g1 q1 => ?_⟩
  · cases x <;> first | exact .inl ⟨_, rfl⟩ | exact .inr rfl
  · have hk : ((z.keep (Ah.D.immO true (.lst ds)) (vars a)).store true i (.lst ds)) = if i < z.env.length then some ((z.keep (Ah.D.immL ds) (vars a)).setO i (.lst ds)) else none := by
      simp only [Z.store, if_true, keep_env.1, Ah.D.immO]
    rw [hk] at q1
    split at q1
    · rename_i z1 hz
      split at hz
      · rename_i hil
        cases hz
        have a2 := a1.keep (Ah.D.immL ds) (vars a)
        have lz : DenL G (Bz (fun b => B0 b ∨ b = p) ad (z.keep (Ah.D.immL ds) (vars a)).ow) H1 ds vs := by
          refine a1.cameL id (l.mono fun b hb => ?_)
          rcases hb with (hb | hb) | hb
          · exact .inl (.inl hb)
          · exact .inr hb
          · exact .inl (.inr hb)
        have a3 := a2.setO (i := i) b1 at_.mb nB0 n0 e lz hl (by rw [keep_env.1]; exact hil) h0
        refine q1 _ _ H1 a3 (Stp.new x1 g1.dr fun b hb => ?_)
        rcases hb with hb | ⟨j, hj, rfl⟩
        · exact .inl (.inl hb)
        · by_cases hji : j = i
          · subst hji; exact .inr (by simpa using hp)
          · have hj := (List.mem_cons.mp hj).resolve_left hji
            exact .inl (.inr ⟨j, keep_sub j (List.mem_filter.mp hj).1, by simp [hji]⟩)
      · cases hz
    · exact q1.elim
/-! ### append, pop -/
/-- a method of a list held in a slot -/
theorem base_name {i : Nat} {x : Str} {f : Str} {w : Sem Value} : attributeBase (.Name x p) f X.env w = w := rfl
theorem few1 {cpos : Pos} (hs : noStar ea = true) : ((backTo cpos (starEach [ea] X.env)).all (fun x => !x.1) && (backToKw cpos (keywordEach [] X.env)).all (fun x => x.1.isSome)
      && decide (([ea] : List Expr).length + ([] : List Keyword).length + (if ([] : List Keyword).isEmpty then 0 else 1) < 30)) = true := by
  rw [starEach_cons hs]; rfl
theorem pe_appW {x : Str} {i : Nat} {te : TE} {p2 cpos : Pos} (hN : X.N[i]? = some x) (hv : visB X.env.scope x = true) (hn : nmOk x = true) (hs : noStar ea = true) (hline : (p2.endLine == cpos.line) = true) (ha : PE X ea te) :
    PE X (.Call (.Attribute (.Name x p) "append" p2) [ea] [] cpos) (fun σ H Q => ∃ v, σ[i]? = some (some v) ∧ L2.tyV X.K "list" v H ∧ te σ H fun y H2 => rAppend v [y] H2 Q) := by
  refine PE.imp (pe_bm PySem.F.plainAttrs_list PySem.F.slot_list_append PySem.F.type_list_append mt_append (pe_var hN (vis_of hv) (nmOk_1 hn) (nmOk_2 hn)) (pa_cons ha pa_nil (starEach_cons hs)) rfl (few1 hs) hline (starEach_cons hs) rfl) fun σ H Q h => h
theorem pe_pop0W {x : Str} {i : Nat} {p2 cpos : Pos} (hN : X.N[i]? = some x) (hv : visB X.env.scope x = true) (hn : nmOk x = true) (hline : (p2.endLine == cpos.line) = true) :
    PE X (.Call (.Attribute (.Name x p) "pop" p2) [] [] cpos) (fun σ H Q => ∃ v, σ[i]? = some (some v) ∧ L2.tyV X.K "list" v H ∧ rPop v [] H Q) := by
  refine PE.imp (pe_bm0 PySem.F.plainAttrs_list PySem.F.slot_list_pop PySem.F.type_list_pop mt_pop (pe_var hN (vis_of hv) (nmOk_1 hn) (nmOk_2 hn)) rfl hline) fun σ H Q h => h
theorem pe_popW {x : Str} {i : Nat} {te : TE} {p2 cpos : Pos} (hN : X.N[i]? = some x) (hv : visB X.env.scope x = true) (hn : nmOk x = true) (hs : noStar ea = true) (hline : (p2.endLine == cpos.line) = true) (ha : PE X ea te) :
    PE X (.Call (.Attribute (.Name x p) "pop" p2) [ea] [] cpos) (fun σ H Q => ∃ v, σ[i]? = some (some v) ∧ L2.tyV X.K "list" v H ∧ te σ H fun y H2 => rPopAt v [y] H2 Q) := by
  refine PE.imp (pe_bm PySem.F.plainAttrs_list PySem.F.slot_list_pop PySem.F.type_list_pop mt_popAt (pe_var hN (vis_of hv) (nmOk_1 hn) (nmOk_2 hn)) (pa_cons ha pa_nil (starEach_cons hs)) rfl (few1 hs) hline (starEach_cons hs) rfl) fun σ H Q h => h
theorem zat {i : Nat} {ds : List Ah.D} (h : z.at i = some ds) : i ∈ z.ow ∧ z.env[i]? = some (some (.lst ds)) := by
  unfold Z.at at h
  split at h
  · split at h
    · cases h; exact ⟨by assumption, by assumption⟩
    · cases h
  · cases h
theorem SAt.owned (a : SAt G M B0 H0 ad z s σ H) {i : Nat} {ds : List Ah.D} (h : z.at i = some ds) : i ∈ z.ow ∧ ∃ vs, σ[i]? = some (some (.ref (ad i))) ∧ H (ad i) = some (.lst vs) ∧ DenL G (Bz B0 ad z.ow) H ds vs ∧ ds.length ≤ LIM := by
  obtain ⟨h1, h2⟩ := zat h
  obtain ⟨ds', vs, k1, k2, k3, k4, k5, _⟩ := a.own i h1
  rw [h2] at k1
  cases k1
  exact ⟨h1, vs, k2, k3, k4, k5⟩
theorem keep_at {i : Nat} {ds : List Ah.D} {b : Bool} {vs : List Nat} (h : (z.keep b vs).at i = some ds) : i ∈ z.ow ∧ z.at i = some ds := by
  obtain ⟨h1, h2⟩ := zat h
  have h1 := keep_sub i h1
  rw [keep_env.1] at h2
  refine ⟨h1, ?_⟩
  unfold Z.at
  rw [if_pos h1, h2]
/-- an item behind the last one -/
theorem app_core {Q : VK} (a1 : SAt G M B0 H0 ad z s σ H) {i : Nat} {ds : List Ah.D} {d : Ah.D} {v : V} (hi : z.at i = some ds) (hd : Den G (Bz B0 ad z.ow) H d v) (hl : ds.length < LIM)
    (hq : ∀ vs, H (ad i) = some (.lst vs) → SAt G M B0 H0 ad (z.upd i (ds ++ [d])) s σ (L2.upd H (ad i) (.lst (vs ++ [v]))) → Stp G (Bz B0 ad z.ow) H (Bz B0 ad z.ow) (L2.upd H (ad i) (.lst (vs ++ [v]))) → Q .non (L2.upd H (ad i) (.lst (vs ++ [v])))) : rAppend (.ref (ad i)) [v] H Q := by
  obtain ⟨h1, vs, h2, h3, h4, h5⟩ := a1.owned hi
  obtain ⟨a2, st⟩ := a1.upd h1 (us := vs ++ [v]) (h4.append (.cons hd .nil)) (by rw [List.length_append]; show ds.length + 1 ≤ LIM; omega)
  exact ⟨ad i, vs, v, rfl, rfl, h3, by rw [← h4.length]; exact Nat.lt_of_lt_of_le hl (by decide), hq vs h3 a2 st⟩
theorem sv_app {x : Str} {i : Nat} {p2 cpos : Pos} (hN : X.N[i]? = some x) (hv : visB X.env.scope x = true) (hn : nmOk x = true) (hs : noStar ea = true) (hline : (p2.endLine == cpos.line) = true) (ha : PEv X G E P cl a ea) :
    PSv X G M E P cl n (.app i a) (.Expr (.Call (.Attribute (.Name x p) "append" p2) [ea] [] cpos) pos) := by
  refine PS.imp (ps_expr (pe_appW hN hv hn hs hline ha) rfl) fun D σ H ⟨B0, H0, ad, z, s, at_, q⟩ => ?_
  simp only [evS] at q
  split at q
  · rename_i hi
    obtain ⟨ds0, vs0, k1, k2, k3, k4, k5, _⟩ := at_.own i hi
    refine ⟨_, k2, .inl ⟨rfl, vs0, .of k3⟩, _, _, s, at_.masked (vars a), at_.bind (rel := relD G (Bm B0 ad z (vars a))) q fun y s1 v H1 x1 g1 d1 a1 q1 => ?_⟩
    split at q1
    · rename_i ds hz
      split at q1
      · rename_i hl
        have a2 := a1.keep y.imm (vars a)
        refine app_core a2 hz (a1.came id d1) hl fun vs _ a3 st => ?_
        exact q1 ad σ _ a3 ((Stp.refl.less fun b hb => Bz_less keep_sub b hb).trans st)
      · exact q1.elim
    · exact q1.elim
  · exact q.elim
theorem sv_pop {x y : Str} {i j : Nat} {p0 p2 cpos : Pos} (h0 : M = none ∨ i ≠ 0) (hN : X.N[j]? = some x) (hv : visB X.env.scope x = true) (hn : nmOk x = true) (hline : (p2.endLine == cpos.line) = true) (hst : ∀ {te : TE}, PE X (.Call (.Attribute (.Name x p) "pop" p2) [] [] cpos) te → PS X st (tAsg te (gName i))) :
    PSv X G M E P cl n (.pop i j) st := by
  refine PS.imp (hst (pe_pop0W hN hv hn hline)) fun D σ H ⟨B0, H0, ad, z, s, at_, q⟩ => ?_
  simp only [evS] at q
  split at q
  · rename_i ds hz
    split at q
    · rename_i d hd
      split at q
      · rename_i hij
        obtain ⟨h1, vs, h2, h3, h4, h5⟩ := at_.owned hz
        rw [List.getLast?_eq_getElem?] at hd
        obtain ⟨v, hv, dv⟩ := h4.get hd
        rw [h4.length] at hv
        have dl : DenL G (Bz B0 ad z.ow) H ds.dropLast vs.dropLast := by
          rw [List.dropLast_eq_take, List.dropLast_eq_take, ← h4.length]; exact h4.take _
        obtain ⟨a2, st⟩ := at_.upd h1 (us := vs.dropLast) dl (by rw [List.length_dropLast]; omega)
        refine ⟨_, h2, .inl ⟨rfl, vs, .of h3⟩, ad j, vs, v, rfl, rfl, h3, hv, ?_⟩
        refine q ad _ _ (a2.set (i := i) h0 (Den.wr0 (.inr ⟨j, h1, rfl⟩) h3 d dv)) (st.less fun b hb => Bz_less (fun m hm => (List.mem_filter.mp hm).1) b hb)
      · exact q.elim
    · exact q.elim
  · exact q.elim
theorem DenL.erase : ∀ {ds : List Ah.D} {vs : List V} (i : Nat), DenL G B H ds vs → DenL G B H (ds.eraseIdx i) (vs.eraseIdx i)
  | _, _, _, .nil => .nil
  | _, _, 0, .cons _ t => t
  | _, _, i + 1, .cons h t => .cons h (t.erase i)
theorem upd_at {i j : Nat} {ds es : List Ah.D} (hij : i ≠ j) (h : z.at i = some ds) : (z.upd j es).at i = some ds := by
  obtain ⟨h1, h2⟩ := zat h
  unfold Z.at Z.upd
  simp only
  rw [if_pos h1, List.getElem?_set_ne (fun w => hij w.symm), h2]
theorem sv_appPop {x y : Str} {i j : Nat} {p0 p2 p3 c2 cpos : Pos} (hN : X.N[i]? = some x) (hv : visB X.env.scope x = true) (hn : nmOk x = true) (hline : (p2.endLine == cpos.line) = true)
    (hN2 : X.N[j]? = some y) (hv2 : visB X.env.scope y = true) (hn2 : nmOk y = true) (hline2 : (p3.endLine == c2.line) = true) (hs : noStar ea = true) (ha : PEv X G E P cl a ea) :
    PSv X G M E P cl n (.appPop i j a) (.Expr (.Call (.Attribute (.Name x p) "append" p2) [.Call (.Attribute (.Name y p0) "pop" p3) [ea] [] c2] [] cpos) pos) := by
  refine PS.imp (ps_expr (pe_appW hN hv hn rfl hline (pe_popW hN2 hv2 hn2 hs hline2 ha)) rfl) fun D σ H ⟨B0, H0, ad, z, s, at_, q⟩ => ?_
  simp only [evS] at q
  split at q
  · rename_i is js hi hj
    obtain ⟨i1, vi, i2, i3, i4, i5⟩ := at_.owned hi
    obtain ⟨j1, vj, j2, j3, j4, j5⟩ := at_.owned hj
    refine ⟨_, i2, .inl ⟨rfl, vi, .of i3⟩, _, j2, .inl ⟨rfl, vj, .of j3⟩, _, _, s, at_.full, at_.bind (rel := relD G B0) q fun kx s1 v H1 x1 g1 d1 a1 q1 => ?_⟩
    cases kx <;> try (exact q1.elim)
    rename_i kk
    cases d1
    simp only at q1
    split at q1
    · rename_i d hd
      split at q1
      · rename_i hc
        obtain ⟨j1, vj1, _, j3', j4', j5'⟩ := a1.owned hj
        obtain ⟨w, hw, dw⟩ := j4'.get hd
        have hlt : kk.toNat < js.length := (List.getElem?_eq_some_iff.mp hd).1
        have hlm : js.length ≤ LIM := j5'
        have hLIM : (LIM : Int) = 1000000 := rfl
        obtain ⟨a2, st⟩ := a1.upd j1 (us := vj1.eraseIdx kk.toNat) (j4'.erase kk.toNat) (Nat.le_trans (len_erase js kk.toNat) j5')
        have hk : ((kk.toNat : Nat) : Int) = kk := Int.toNat_of_nonneg hc.1
        refine ⟨ad j, vj1, kk, kk.toNat, w, rfl, rfl, j3', by omega, by unfold LIM at hlm; omega, ?_, hw, ?_⟩
        · unfold seqIndex?
          rw [← j4'.length]
          simp only [show ¬ kk < 0 by omega, if_false]
          rw [if_pos (by simp only [Bool.and_eq_true, decide_eq_true_eq]; constructor <;> omega)]
        · have hi2 := upd_at (z := z) (es := js.eraseIdx kk.toNat) hc.2.1 hi
          refine app_core a2 hi2 (Den.wr0 (.inr ⟨j, j1, rfl⟩) j3' d dw) hc.2.2 fun vs _ a3 st3 => ?_
          exact q1 ad σ _ a3 (st.trans st3)
      · exact q1.elim
    · exact q1.elim
  · exact q.elim
/-! ### loops -/
theorem sv_forG {tgt : Tg} {body : List Stmt} {r : En → Dr → R (List Ah.D)} {us : List Nat} {fl : Bool} {S : Sx} (hS : ∀ z s, evS P cl n S z s = (r (mask z us) s).bind fun xs s => loopF tgt (evS P cl n sa) xs (z.keep fl us) s) (h0 : ∀ i ∈ tgt.ixs, M = none ∨ i ≠ 0) (hx : XOk X G P SH cl E k) (hp : PassesOwn (model X.prog X.w) X.A X.env X.xe) (hi : PI X tg it (tRIb fl G E r)) (hg : PG X tg (tgG X.K tgt)) (hb : PSsv X G M E P cl n sa body)
    (hs : ∀ x, foldedSetIterable it X.env x = pure x) : PSv X G M E P cl n S (.For tg it body [] pos) := by
  refine PS.imp (ps_for hp hx.calm hi hg hb hs) fun D σ H ⟨B0, H0, ad, z, s, at_, q⟩ => ?_
  rw [hS] at q
  refine ⟨_, _, s, at_.masked us, at_.bind (rel := relI fl G (Bm B0 ad z us)) q fun xs s1 J H1 x1 g1 w a1 q1 => ?_⟩
  have a1 := a1.keep fl us
  have q1 := q1.at (Stp.refl.less fun b hb => Bz_less (keep_sub (b := fl) (vs := us)) b hb)
  have w1 : Wk G (Bz B0 ad (z.keep fl us).ow) J xs H1 := by
    refine w _ ?_
    cases hr : fl with
    | true => exact .inl rfl
    | false => exact .inr rfl
  generalize z.keep fl us = z1 at a1 q1 w1
  refine ⟨fun i m σ' H' => m = xs.length - i ∧ i ≤ xs.length ∧ ∃ ad' z' s', SAt G M B0 H0 ad' z' s' σ' H' ∧ Stp G (Bz B0 ad z1.ow) H1 (Bz B0 ad' z'.ow) H' ∧ finS G M B0 H0 E D (Bz B0 ad' z'.ow) H' (loopF tgt (evS P cl n sa) (xs.drop i) z' s'), ⟨xs.length, by omega, by omega, ad, z1, s1, a1, Stp.refl, by simpa using q1⟩, ?_⟩
  rintro i m σ' H' ⟨rfl, hil, ad', z', s', a', st, q'⟩
  obtain ⟨y1, y2⟩ := w1 (Bz B0 ad' z'.ow) st.bar a'.drz s' i H' st.ext a'.good
  by_cases hlt : i < xs.length
  · obtain ⟨go, y2⟩ := y2 xs[i] (by simp [hlt])
    rw [List.drop_eq_getElem_cons hlt] at q'
    unfold loopF at q'
    refine .inr ⟨go, fun σ2 H2 => ∃ ad2 z2 s2, SAt G M B0 H0 ad2 z2 s2 σ2 H2 ∧ Stp G (Bz B0 ad z1.ow) H1 (Bz B0 ad2 z2.ow) H2 ∧ finS G M B0 H0 E D (Bz B0 ad2 z2.ow) H2 (loopF tgt (evS P cl n sa) (xs.drop (i + 1)) z2 s2), fun σ2 H2 ⟨ad2, z2, s2, h1, h2, h3⟩ => ⟨xs.length - (i + 1), by omega, rfl, hlt, ad2, z2, s2, h1, h2, h3⟩, fun x H2 hy => ?_⟩
    obtain ⟨x2, g2, d2⟩ := y2 x H2 hy
    split at q'
    · rename_i z2 hz
      refine puts_run hx.K h0 (a'.later x2 g2) d2 hz fun σ2 a2 => ?_
      have st2 : Stp G (Bz B0 ad' z'.ow) H' (Bz B0 ad' z2.ow) H2 := (Stp.of x2 g2.dr).less (Bz_less (puts_sub hz))
      refine ⟨B0, H0, ad', z2, s', a2, ?_⟩
      have q2 := q'.at st2
      cases hr : evS P cl n sa z2 s' with
      | ok f s3 =>
        rw [hr] at q2
        simp only [R.bind_ok] at q2
        cases f with
        | nx z3 => exact fun ad3 σ3 H3 a3 st3 => ⟨ad3, z3, s3, a3, (st.trans st2).trans st3, q2.at st3⟩
        | ct z3 => exact fun ad3 σ3 H3 a3 st3 => ⟨ad3, z3, s3, a3, (st.trans st2).trans st3, q2.at st3⟩
        | bk z3 => exact fun ad3 σ3 H3 a3 st3 => q2 ad3 σ3 H3 a3 st3
        | rt d => exact q2
      | exc c ds s3 => rw [hr] at q2; exact q2
      | no => rw [hr] at q2; exact q2
    · exact q'.elim
  · have e : i = xs.length := by omega
    subst e
    rw [List.drop_length] at q'
    exact .inl ⟨y1 rfl, q' ad' σ' H' a' Stp.refl⟩
theorem sv_for {tgt : Tg} {body : List Stmt} (h0 : ∀ i ∈ tgt.ixs, M = none ∨ i ≠ 0) (hx : XOk X G P SH cl E k) (hp : PassesOwn (model X.prog X.w) X.A X.env X.xe) (hi : PI X tg it (tRIb (isRng ci) G E (evI P cl ci))) (hg : PG X tg (tgG X.K tgt)) (hb : PSsv X G M E P cl n sa body)
    (hs : ∀ x, foldedSetIterable it X.env x = pure x) : PSv X G M E P cl n (.for_ tgt ci sa) (.For tg it body [] pos) := sv_forG (r := evI P cl ci) (us := vars ci) (fl := isRng ci) (fun z s => by simp only [evS]) h0 hx hp hi hg hb hs
theorem sv_whl {body : List Stmt} (hp : PassesOwn (model X.prog X.w) X.A X.env X.xe) (ha : PTv X G E P cl a ea) (hb : PSsv X G M E P cl n sa body) : PSv X G M E P cl n (.whl a sa) (.While ea body [] pos) := by
  refine PS.imp (ps_while hp ha hb) fun D σ H ⟨B0, H0, ad, z, s, at_, q⟩ => ?_
  simp only [evS] at q
  refine ⟨fun m σ' H' => ∃ ad' z' s', SAt G M B0 H0 ad' z' s' σ' H' ∧ finS G M B0 H0 E D (Bz B0 ad' z'.ow) H' (whileF (fun z s => evB P cl a z.env s) (evS P cl n sa) m z' s'), ⟨n, ad, z, s, at_, q⟩, ?_⟩
  rintro m σ' H' ⟨ad', z', s', a', q'⟩
  cases m with
  | zero => exact q'.elim
  | succ m =>
    unfold whileF at q'
    refine ⟨B0, z'.env, s', a'.full, a'.bind (rel := relB) q' fun b s1 b' H1 x1 g1 d1 a1 q1 => ?_⟩
    subst d1
    cases b with
    | true =>
      rw [if_pos rfl] at q1 ⊢
      refine ⟨fun σ2 H2 => ∃ ad2 z2 s2, SAt G M B0 H0 ad2 z2 s2 σ2 H2 ∧ finS G M B0 H0 E D (Bz B0 ad2 z2.ow) H2 (whileF (fun z s => evB P cl a z.env s) (evS P cl n sa) m z2 s2), fun σ2 H2 h => ⟨m, Nat.lt_succ_self m, h⟩, B0, H0, ad', z', s1, a1, ?_⟩
      cases hr : evS P cl n sa z' s1 with
      | ok f s3 =>
        rw [hr] at q1
        simp only [R.bind_ok] at q1
        cases f with
        | nx z3 => exact fun ad3 σ3 H3 a3 st3 => ⟨ad3, z3, s3, a3, q1.at st3⟩
        | ct z3 => exact fun ad3 σ3 H3 a3 st3 => ⟨ad3, z3, s3, a3, q1.at st3⟩
        | bk z3 => exact fun ad3 σ3 H3 a3 st3 => q1 ad3 σ3 H3 a3 st3
        | rt d => exact q1
      | exc c ds s3 => rw [hr] at q1; exact q1
      | no => rw [hr] at q1; exact q1
    | false =>
      rw [if_neg Bool.false_ne_true] at q1 ⊢
      exact q1 ad' σ' H1 a1 Stp.refl
end
end Ah

/-! ## AhK -/
set_option Elab.async false
set_option linter.all false
set_option maxRecDepth 100000
set_option maxHeartbeats 2000000
/-! Ah: two stores at once; fields of self. -/
namespace Ah
open PySem PySem.Spec PyProof.Rows L2
section
variable {X : Cx} {G : Ah.G} {M : Me} {E : XK} {P : Prg} {SH : Shapes} {cl : Cl} {k n : Nat} {pos p : Pos} {e ea eb ec tg it elt : Expr} {a b c ci ce cc : C} {es : List Expr} {t : Stat} {B B' B0 B1 : Bar} {H H' H0 H1 : Hp} {s s' s1 : Dr} {ad ad' : Nat → Addr} {z z' : Z} {σ : L2.St} {D : Ends} {st : Stmt} {sts : List Stmt} {sa sb : Sx}
/-- what a store of two asks of its text -/
structure ParT (X : Cx) (i j : Nat) (ea eb : Expr) (st : Stmt) : Prop where
  run : ∀ {ta : TA}, PA X [ea, eb] ta → PS X st (tPar i j ta)
theorem sv_par {i j : Nat} (hpt : ParT X i j ea eb st) (h0 : M = none ∨ i ≠ 0) (h1 : M = none ∨ j ≠ 0) (hs : noStar ea = true) (hs2 : noStar eb = true) (ha : PEv X G E P cl a ea) (hb : PEv X G E P cl b eb) : PSv X G M E P cl n (.par i j false false a b) st := by
  refine PS.imp (hpt.run (pa_cons ha (pa_cons hb pa_nil (starEach_cons hs2)) (starEach_cons hs))) fun D σ H ⟨B0, H0, ad, z, s, at_, q⟩ => ?_
  simp only [evS] at q
  refine ⟨_, _, s, at_.masked (vars a ++ vars b), at_.bind (rel := relD G (Bm B0 ad z (vars a ++ vars b))) q fun x s1 v H1 x1 g1 d1 a1 q1 => ⟨_, _, s1, a1.masked (vars a ++ vars b), a1.bind (rel := relD G (Bm B0 ad z (vars a ++ vars b))) q1 fun y s2 w H2 x2 g2 d2 a2 q2 => ?_⟩⟩
  refine ⟨v, w, rfl, ?_⟩
  simp only [Bool.false_and, Bool.false_eq_true, if_false] at q2
  have bm := (a1.masked (vars a ++ vars b)).bok
  have d1 := d1.ext x2 g1.dr bm
  simp only [Ah.D.immO, Bool.false_eq_true, if_false, Z.store, Option.bind_some] at q2
  have hi : (x.imm && y.imm) = true → x.imm = true := fun w => (Bool.and_eq_true _ _ ▸ w).1
  have hj : (x.imm && y.imm) = true → y.imm = true := fun w => (Bool.and_eq_true _ _ ▸ w).2
  have c1 := a2.came hi d1
  have c2 := a2.came hj d2
  have a3 := (a2.keep (x.imm && y.imm) (vars a ++ vars b)).set (i := i) h0 c1
  have sub : ∀ m ∈ ((z.keep (x.imm && y.imm) (vars a ++ vars b)).set i x).ow, m ∈ (z.keep (x.imm && y.imm) (vars a ++ vars b)).ow := fun m hm => (List.mem_filter.mp hm).1
  have a4 := a3.set (i := j) h1 (c2.mono (Bz_less sub))
  refine q2 ad _ H2 a4 (Stp.refl.less fun b hb => ?_)
  exact Bz_less keep_sub b (Bz_less sub b (Bz_less (fun m hm => (List.mem_filter.mp hm).1) b hb))
theorem Nw.back2 {q : Addr} (x : Ext G H H1) (nd : ¬ isDr G q) (h : Nw H1 q) : Nw H q := fun o e => Classical.byContradiction fun ht =>
  h.no (x q o e nd fun ps w => ht ⟨ps, w⟩) fun ps w => ht ⟨ps, w⟩
theorem isL_of {x : Ah.D} (h : x.isL = true) : ∃ ds, x = .lst ds := by
  cases x <;> first | exact ⟨_, rfl⟩ | cases h
theorem sv_parO {i j : Nat} (hpt : ParT X i j ea eb st) (h0 : M = none ∨ i ≠ 0) (h1 : M = none ∨ j ≠ 0) (hij : i ≠ j) (hs : noStar ea = true) (hs2 : noStar eb = true) (ha : PFv X G E P cl a ea) (hb : PFv X G E P cl b eb) : PSv X G M E P cl n (.par i j true true a b) st := by
  refine PS.imp (hpt.run (pa_cons ha (pa_cons hb pa_nil (starEach_cons hs2)) (starEach_cons hs))) fun D σ H ⟨B0, H0, ad, z, s, at_, q⟩ => ?_
  simp only [evS] at q
  refine ⟨_, _, s, at_.masked (vars a ++ vars b), at_.bindF (fun b h => .inl h) q (fun x s1 => ?_) fun ds vs s1 p1 H1 a1 b1 n0 hp nB0 nB e1 l1 hl1 x1 g1 q1 => ?_⟩
  · cases x <;> first | exact .inl ⟨_, rfl⟩ | exact .inr rfl
  simp only [Ah.D.isL, Bool.not_true, Bool.and_false, Bool.false_eq_true, if_false] at q1
  refine ⟨_, _, s1, a1.masked (vars a ++ vars b), a1.bindF (fun b h => .inl h) q1 (fun y s2 => ?_) fun es ws s2 p2 H2 a2 b2 m0 hp2 mB0 mB e2 l2 hl2 x2 g2 q2 => ?_⟩
  · cases y <;> first | exact .inl ⟨_, rfl⟩ | exact .inr rfl
  refine ⟨.ref p1, .ref p2, rfl, ?_⟩
  simp only [Ah.D.isL, Bool.not_true, Bool.and_false, Bool.false_eq_true, if_false, Ah.D.immO, if_true, Z.store, keep_env.1] at q2
  split at q2
  · rename_i z2 hz
    split at hz
    · rename_i hil
      simp only [Option.bind_some, Z.setO, List.length_set, keep_env.1] at hz
      split at hz
      · rename_i hjl
        cases hz
        have nd1 : ¬ isDr G p1 := fun w => nB0 (at_.bok.dr p1 w)
        have nd2 : ¬ isDr G p2 := fun w => mB0 (.inl (at_.bok.dr p2 w))
        have e1' : H2 p1 = some (.lst vs) := x2 _ _ e1 nd1 fun _ w => nomatch w
        have np : p1 ≠ p2 := fun w => by
          rw [← w] at hp2
          exact Nw.no hp2 e1 fun _ w => nomatch w
        generalize hb : (Ah.D.immL ds && Ah.D.immL es) = bb at q2
        have hi : bb = true → Ah.D.immL ds = true := fun w => by rw [← hb] at w; exact (Bool.and_eq_true _ _ ▸ w).1
        have hj : bb = true → Ah.D.immL es = true := fun w => by rw [← hb] at w; exact (Bool.and_eq_true _ _ ▸ w).2
        -- both lists' items under all bars
        have c1 : DenL G (Bz (fun b => (fun b => B0 b ∨ b = p1) b ∨ b = p2) ad (z.keep bb (vars a ++ vars b)).ow) H2 ds vs := by
          refine a2.cameL hi ?_
          refine DenL.ext0 x2 g1.dr ds (fun b w => .inl (.inl (.inl (at_.bok.dr b w)))) (DenL.bar (B := fun c => Bm B0 ad z (vars a ++ vars b) c ∨ c = p1) ds (fun c hc => ?_) l1)
          rcases hc with ((hc | hc) | hc) | hc
          · exact .inl (.inl (.inl hc))
          · exact .inl (.inr hc)
          · exact .inr (hc ▸ hp2)
          · exact .inl (.inl (.inr hc))
        have c2 : DenL G (Bz (fun b => (fun b => B0 b ∨ b = p1) b ∨ b = p2) ad (z.keep bb (vars a ++ vars b)).ow) H2 es ws := by
          refine a2.cameL hj (l2.mono fun c hc => ?_)
          rcases hc with (hc | hc) | hc
          · exact .inl (.inl hc)
          · exact .inr hc
          · exact .inl (.inr hc)
        have a2k := a2.keep bb (vars a ++ vars b)
        have eqB : (fun b => (fun b => B0 b ∨ b = p1) b ∨ b = p2) = (fun b => (fun b => B0 b ∨ b = p2) b ∨ b = p1) := by
          funext c
          exact propext ⟨fun h => h.elim (fun h => h.elim (fun h => .inl (.inl h)) .inr) fun h => .inl (.inr h), fun h => h.elim (fun h => h.elim (fun h => .inl (.inl h)) .inr) fun h => .inl (.inr h)⟩
        rw [eqB] at a2k c1 c2
        have bk : BOk G (fun b => B0 b ∨ b = p2) H2 := ⟨fun c hc => by
          rcases hc with hc | rfl
          · exact b2.there c (.inl hc)
          · exact ⟨_, e2, fun _ w => nomatch w⟩, fun c w => .inl (at_.bok.dr c w)⟩
        have a3 := a2k.setO (i := i) bk (fun m w => .inl (at_.mb m w)) (fun w => w.elim nB0 np) n0 e1' c1 hl1 (by rw [keep_env.1]; exact hil) h0
        have a4 := a3.setO (i := j) (b1.ext x2 g2.dr) at_.mb (fun w => mB0 (.inl w)) m0 e2 (c2.mono fun c hc => by
          rcases hc with (hc | hc) | ⟨m, hm, rfl⟩
          · exact .inl (.inl (.inl hc))
          · exact .inl (.inl (.inr hc))
          · by_cases hmi : m = i
            · subst hmi; exact .inl (.inr (by simp))
            · have hm := (List.mem_cons.mp hm).resolve_left hmi
              exact .inr ⟨m, (List.mem_filter.mp hm).1, by simp [hmi]⟩) hl2 (by simp only [Z.setO, List.length_set, keep_env.1]; exact hjl) h1
        simp only [Z.setO, keep_env.1] at a4
        refine q2 _ _ H2 a4 (Stp.new (x1.trans x2) g2.dr fun c hc => ?_)
        rcases hc with hc | ⟨m, hm, rfl⟩
        · exact .inl (.inl hc)
        · by_cases hmj : m = j
          · subst hmj; exact .inr (by simpa using Nw.back2 x1 nd2 hp2)
          · have hm := (List.mem_filter.mp ((List.mem_cons.mp hm).resolve_left hmj)).1
            by_cases hmi : m = i
            · subst hmi; exact .inr (by simpa [hmj] using hp)
            · have hm := (List.mem_filter.mp ((List.mem_cons.mp hm).resolve_left hmi)).1
              exact .inl (.inr ⟨m, keep_sub m hm, by simp [hmj, hmi]⟩)
      · cases hz
    · cases hz
  · exact q2.elim
/-! ### fields of self -/
theorem pg_self {f : Str} {i : Nat} {x : Str} {po : Pos} (hN : X.N[i]? = some x) (hv : visB X.env.scope x = true) (hn : nmOk x = true) :
    PG X (.Attribute (.Name x p) f po) (fun v σ H Q => ∃ a C dx fs, σ[i]? = some (some (.ref a)) ∧ H a = some (.ins C dx fs) ∧ Cls X.K C ∧ NoAttr X.K C f ∧ fs.length < 1000 ∧ Q σ (L2.upd H a (.ins C dx (putF f v fs)))) := by
  refine ⟨fun pins s σ H v u Q I r h => ?_⟩
  obtain ⟨a, C, dx, fs, h1, h2, h3, h4, h5, q⟩ := h
  rw [assign_Attribute]
  have pe := (pe_var (pos := p) hN (vis_of hv) (nmOk_1 hn) (nmOk_2 hn)).run pins s σ H (fun w H' => w = .ref a ∧ H' = H) I ⟨_, h1, rfl, rfl⟩
  refine wpAny_bind (wpAny_holding (thn pe fun ov s1 ⟨w, H1, I1, rw1, e1, e2⟩ => ?_))
  subst e1 e2
  cases rw1
  refine wpAny_bind (wpAny_standAt (wpAny_bind (wpAny_holding (setattr_ok I1 h2 h3 h4 h5 r fun s3 I3 => wpAny_release ⟨σ, _, I3, q⟩))))
theorem putF_new {f : Str} {v : V} : ∀ {fs : List (Str × V)}, f ∉ fs.map (·.1) → putF f v fs = fs ++ [(f, v)]
  | [], _ => rfl
  | (g, x) :: r, h => by
    have h1 : g ≠ f := fun e => h (by rw [e]; exact List.mem_cons_self)
    show (if g = f then _ else _) = _
    rw [if_neg h1, putF_new fun w => h (List.mem_cons_of_mem _ w)]; rfl
/-- one more field -/
theorem put_field {fs : List Str} {vs : List V} {f : Str} {v : V} (nd : fs.Nodup) (hf : fs[vs.length]? = some f) : putF f v ((fs.take vs.length).zip vs) = (fs.take (vs.length + 1)).zip (vs ++ [v]) := by
  have hlt : vs.length < fs.length := (List.getElem?_eq_some_iff.mp hf).1
  have hl : (fs.take vs.length).length = vs.length := by rw [List.length_take]; omega
  rw [putF_new, List.take_add_one, hf, Option.toList_some, List.zip_append hl]
  · rfl
  · rw [List.map_fst_zip (by omega)]
    intro hm
    obtain ⟨j, hj, e⟩ := List.mem_iff_getElem.mp hm
    rw [List.getElem_take] at e
    have hj' : j < vs.length := by rw [hl] at hj; exact hj
    have := (List.getElem?_eq_some_iff.mp hf).2
    exact absurd (List.nodup_iff_pairwise_ne.mp nd) (by
      intro pw
      exact List.pairwise_iff_getElem.mp pw j vs.length (by omega) hlt hj' (e.trans this.symm))
/-- the fields' names as text -/
def slfNms (x : Str) : List Str → List Expr → Bool
  | [], [] => true
  | f :: fs, .Attribute (.Name y _) g _ :: es => decide (y = x) && decide (g = f) && slfNms x fs es
  | _, _ => false
end
end Ah

/-! ## AhJ -/
set_option Elab.async false
set_option linter.all false
set_option maxRecDepth 100000
set_option maxHeartbeats 2000000
/-! Ah: fields of self stored. -/
namespace Ah
open PySem PySem.Spec PyProof.Rows L2
section
variable {X : Cx} {G : Ah.G} {M : Me} {E : XK} {P : Prg} {SH : Shapes} {cl : Cl} {k n : Nat} {pos p : Pos} {e ea eb ec tg it elt : Expr} {a b c ci ce cc : C} {es : List Expr} {t : Stat} {B B' B0 B1 : Bar} {H H' H0 H1 : Hp} {s s' s1 : Dr} {ad ad' : Nat → Addr} {z z' : Z} {σ : L2.St} {D : Ends} {st : Stmt} {sts : List Stmt} {sa sb : Sx}
/-- one more field of self -/
theorem SAt.fld {x dx : Addr} {cn : Nat} (a : SAt G M B0 H0 ad z s σ H) (hM : M = some (x, dx, cn)) {f : Str} {d : Ah.D} {v : V} (nd : (G.cls cn).2.Nodup) (hf : (G.cls cn).2[z.me.length]? = some f) (hd : Den G (Bz B0 ad z.ow) H d v) :
    ∃ fs, H x = some (.ins (G.cls cn).1 dx fs) ∧ fs.length ≤ z.me.length ∧ SAt G M B0 H0 ad { z with me := z.me ++ [d] } s σ (L2.upd H x (.ins (G.cls cn).1 dx (putF f v fs))) ∧ Stp G (Bz B0 ad z.ow) H (Bz B0 ad z.ow) (L2.upd H x (.ins (G.cls cn).1 dx (putF f v fs))) := by
  obtain ⟨vs, e1, l1, dm⟩ := a.me.at_ _ hM
  have bx : B0 x := a.mb _ hM
  have hl : z.me.length = vs.length := dm.length
  have nd' : ¬ isDr G x := isDr_not a.good.dr e1 (fun _ w => nomatch w) fun _ w => nomatch w
  have w := Wrt.ins (G.cls cn).1 dx (((G.cls cn).2.take vs.length).zip vs)
  have bz : Bz B0 ad z.ow x := .inl bx
  rw [hl] at hf
  simp only at e1 l1
  refine ⟨_, e1, ?_, ?_⟩
  · rw [hl, List.length_zip, List.length_take]; omega
  rw [put_field nd hf]
  have th : ∀ b o, H b = some o → (∀ ps, o ≠ .tbl ps) → ∃ o', L2.upd H x (.ins (G.cls cn).1 dx (((G.cls cn).2.take (vs.length + 1)).zip (vs ++ [v]))) b = some o' ∧ ∀ ps, o' ≠ .tbl ps := fun b o e t => by
    by_cases hb : b = x
    · subst hb; exact ⟨_, upd_same, fun _ w => nomatch w⟩
    · exact ⟨o, by rw [upd_ne hb]; exact e, t⟩
  refine ⟨⟨a.len, fun j d' e hj => ?_, fun j hj => ?_, a.inj, ⟨fun b hb => ?_, a.bok.dr⟩, a.good.wrG nd' e1 w, fun b o e m n t => ?_, ⟨fun m e => ?_⟩, a.mb, a.ms⟩, fun b o e n t l => ?_, th, fun _ h => .inl h⟩
  · obtain ⟨u, h1, h2⟩ := a.val j d' e hj
    exact ⟨u, h1, Den.wrG bz e1 w d' h2⟩
  · obtain ⟨ds, us, h1, h2, h3, h4, h5, h6, h7⟩ := a.own j hj
    exact ⟨ds, us, h1, h2, wr_ne h3 e1 (fun w => nomatch w), DenL.wrG bz e1 w ds h4, h5, h6, h7⟩
  · obtain ⟨o, e, t⟩ := a.bok.there b hb
    exact th b o e t
  · rw [upd_ne (m _ hM)]; exact a.ext b o e m n t
  · rw [hM] at e
    cases e
    refine ⟨vs ++ [v], ?_, ?_, DenL.append (DenL.wrG bz e1 w _ dm) (.cons (Den.wrG bz e1 w d hd) .nil)⟩
    · rw [upd_same, List.length_append]; rfl
    · rw [List.length_append]
      have := (List.getElem?_eq_some_iff.mp hf).1
      exact this
  · by_cases hb : b = x
    · subst hb
      rw [e1] at e
      cases e
      exact absurd rfl ((l bz).i _ _ _)
    · rw [upd_ne hb]; exact e
/-- what fields are stored where -/
def gSlf (K : PySem.W.Frag) (i : Nat) (f : Str) : TG := fun v σ H Q => ∃ a C dx fs, σ[i]? = some (some (.ref a)) ∧ H a = some (.ins C dx fs) ∧ Cls K C ∧ NoAttr K C f ∧ fs.length < 1000 ∧ Q σ (L2.upd H a (.ins C dx (putF f v fs)))
def gSlfs (K : PySem.W.Frag) (i : Nat) : List Str → TGs
  | [] => gNil
  | f :: fs => gCons (gSlf K i f) (gSlfs K i fs)
theorem slfs_run {K : PySem.W.Frag} {x dx : Addr} {cn : Nat} (hM : M = some (x, dx, cn)) (nd : (G.cls cn).2.Nodup) (hc : Cls K (G.cls cn).1) (hna : ∀ f ∈ (G.cls cn).2, NoAttr K (G.cls cn).1 f) (h1000 : (G.cls cn).2.length < 1000) {Q : L2.St → Hp → Prop} :
    ∀ {fs : List Str} {ds : List Ah.D} {us : List V} {z : Z} {H : Hp}, SAt G M B0 H0 ad z s σ H → DenL G (Bz B0 ad z.ow) H ds us → ds.length = fs.length → ((G.cls cn).2.drop z.me.length).take fs.length = fs →
      (∀ H', SAt G M B0 H0 ad { z with me := z.me ++ ds } s σ H' → Stp G (Bz B0 ad z.ow) H (Bz B0 ad z.ow) H' → Q σ H') → gSlfs K 0 fs us σ H Q
  | [], [], _, z, H, a, .nil, _, _, q => ⟨rfl, q H (by rw [List.append_nil]; exact a) Stp.refl⟩
  | [], _ :: _, _, z, H, a, _, h, _, q => by cases h
  | _ :: _, [], _, z, H, a, _, h, _, q => by cases h
  | f :: fs, d :: ds, _, z, H, a, .cons hd ht, hl, hf, q => by
    have hlt : z.me.length < (G.cls cn).2.length := by
      apply Classical.byContradiction
      intro hn
      rw [List.drop_of_length_le (by omega)] at hf
      simp at hf
    rw [List.drop_eq_getElem_cons hlt, List.length_cons, List.take_succ_cons] at hf
    injection hf with hf1 hf2
    have hf0 : (G.cls cn).2[z.me.length]? = some f := by rw [List.getElem?_eq_getElem hlt, hf1]
    obtain ⟨gs, e1, l1, a2, st⟩ := a.fld hM nd hf0 hd
    refine ⟨_, _, rfl, x, _, dx, gs, a.ms _ hM, e1, hc, hna f (List.mem_of_getElem? hf0), by omega, ?_⟩
    have bx : Bz B0 ad z.ow x := .inl (a.mb _ hM)
    refine slfs_run hM nd hc hna h1000 (z := { z with me := z.me ++ [d] }) a2 (DenL.wrG bx e1 (Wrt.ins ..) ds ht) (by simpa using hl) (by show ((G.cls cn).2.drop (z.me ++ [d]).length).take fs.length = fs; rw [List.length_append]; exact hf2) fun H' a' st' => q H' (by simpa using a') (st.trans st')
/-- the fields' names as text -/
def slfB (x : Str) : List Str → List Expr → Bool
  | [], [] => true
  | f :: fs, .Attribute (.Name y _) g _ :: es => decide (y = x) && decide (g = f) && slfB x fs es
  | _, _ => false
theorem pgs_slf {x : Str} (hN : X.N[0]? = some x) (hv : visB X.env.scope x = true) (hn : nmOk x = true) : ∀ {fs : List Str} {es : List Expr}, slfB x fs es = true → PGs X es (gSlfs X.K 0 fs)
  | [], [], _ => pgs_nil
  | f :: fs, .Attribute (.Name y p0) g p1 :: es, h => by
    simp only [slfB, Bool.and_eq_true, decide_eq_true_eq] at h
    obtain ⟨⟨rfl, rfl⟩, h2⟩ := h
    exact pgs_cons (pg_self hN hv hn) (pgs_slf hN hv hn h2) rfl
theorem slfB_len {x : Str} : ∀ {fs : List Str} {es : List Expr}, slfB x fs es = true → ∀ {env : Env}, (assignEach es env).length = fs.length ∧ (assignEach es env).findIdx? (·.1) = none ∧ es.length = fs.length ∧ (es.filterMap fun e => match e with | .Name id pos => if env.kindOf id == some .local && pos.line == ((es.head?.map (·.pos.line)).getD 0) then some id else none | _ => none) = []
  | [], [], _, _ => ⟨rfl, rfl, rfl, rfl⟩
  | f :: fs, .Attribute (.Name y p0) g p1 :: es, h, env => by
    simp only [slfB, Bool.and_eq_true, decide_eq_true_eq] at h
    obtain ⟨h1, h2, h3, _⟩ := slfB_len h.2 (env := env)
    have e : assignEach (.Attribute (.Name y p0) g p1 :: es) env = (false, assign (.Attribute (.Name y p0) g p1) env) :: assignEach es env := rfl
    have nm : ∀ {l : List Expr} {gs : List Str}, slfB x gs l = true → ∀ n : Nat, (l.filterMap fun e => match e with | .Name id pos => if env.kindOf id == some .local && pos.line == n then some id else none | _ => none) = [] := by
      intro l
      induction l with
      | nil => intro _ _ _; rfl
      | cons e l ih =>
        intro gs hg n
        cases gs with
        | nil => cases e <;> cases hg
        | cons g0 gs =>
          cases e <;> try (cases hg; done)
          rename_i o f0 p2
          cases o <;> try (cases hg; done)
          simp only [slfB, Bool.and_eq_true, decide_eq_true_eq] at hg
          rw [List.filterMap_cons]
          exact ih hg.2 n
    refine ⟨by rw [e, List.length_cons, h1]; rfl, by rw [e, List.findIdx?_cons, h2]; rfl, by rw [List.length_cons, h3]; rfl, ?_⟩
    rw [List.filterMap_cons]
    exact nm h.2 _
/-- self.f = x -/
theorem sv_slf1 {x f : Str} {cn : Nat} {ci : ClI} {p1 : Pos} (hx : XOk X G P SH cl E k) (hci : P.cls[cn]? = some ci) (hM : M.map (fun m => m.2.2) = some cn) (h1000 : ci.flds.length < 1000) (hN : X.N[0]? = some x) (hv : visB X.env.scope x = true) (hn : nmOk x = true)
    (hs : swapsWithSole [.Attribute (.Name x p) f p1] ea pos.line X.env = pure false) (hw : swappedStores [.Attribute (.Name x p) f p1] ea X.env = pure none) (ha : PEv X G E P cl a ea) : PSv X G M E P cl n (.slf cn [f] (.cons a .nil)) (.Assign [.Attribute (.Name x p) f p1] ea pos) := by
  refine PS.imp (ps_asg ha (pg_self hN hv hn) hs hw) fun D σ H ⟨B0, H0, ad, z, s, at_, q⟩ => ?_
  obtain ⟨⟨x0, dx, cn'⟩, hm, rfl⟩ := Option.map_eq_some_iff.mp hM
  obtain ⟨fi, addr, fd, hfi, hm1, hfl, hnd, hC, Mk, F, S, hna, _⟩ := hx.wd.cls _ ci hci
  simp only [evS, evL, R.bind_assoc, R.bind_ok, hci] at q
  refine ⟨_, _, s, at_.masked (vars (.cons a .nil)), at_.bind (rel := relD G (Bm B0 ad z (vars (.cons a .nil)))) q fun y s1 v H1 x1 g1 d1 a1 q1 => ?_⟩
  split at q1
  · rename_i hc
    have hd : DenL G (Bz B0 ad (z.keep (Ah.D.immL [y]) (vars (.cons a .nil))).ow) H1 [y] [v] := a1.cameL id (.cons d1 .nil)
    have a2 := a1.keep (Ah.D.immL [y]) (vars (.cons a .nil))
    have hh : gSlfs X.K 0 [f] [v] σ H1 D.nx := by
      refine slfs_run (K := X.K) hm (by rw [hfl]; exact hnd) hC.cl (by rw [hfl]; exact hna) (by rw [hfl]; exact h1000) a2 hd rfl (by rw [keep_env.2, hfl]; exact hc.2) fun H' a' st' => ?_
      rw [keep_env.2] at a'
      exact q1 ad σ H' a' ((Stp.refl.less fun b hb => Bz_less keep_sub b hb).trans st')
    obtain ⟨v', r, e, h⟩ := hh
    cases e
    obtain ⟨a0, C0, dx0, gs, k1, k2, k3, k4, k5, k6⟩ := h
    exact ⟨a0, C0, dx0, gs, k1, k2, k3, k4, k5, k6.2⟩
  · exact q1.elim
/-- self.f, self.g = x, y -/
theorem swapped_slf {x : Str} {fs : List Str} {ts vs : List Expr} {env : Env} {k1 k2 : Nat} {p1 p2 : Pos} (h : slfB x fs ts = true) (h0 : fs ≠ []) : swappedStores [.Tuple ts k1 p1] (.Tuple vs k2 p2) env = pure none := by
  obtain ⟨_, _, h3, h4⟩ := slfB_len h (env := env)
  have hl : ts.length ≠ 0 := by rw [h3]; exact fun w => h0 (List.length_eq_zero_iff.mp w)
  unfold swappedStores
  simp only [pure_bind]
  split
  · rfl
  · split
    · rfl
    · rw [if_pos]
      rw [Bool.or_eq_true]
      left
      simp only [bne_iff_ne, ne_eq]
      intro w
      apply hl
      rw [← w]
      exact List.length_eq_zero_iff.mpr h4
theorem sv_slfT {x : Str} {cn : Nat} {ci : ClI} {fs : List Str} {ts vs : List Expr} {k1 k2 : Nat} {p1 p2 : Pos} (hx : XOk X G P SH cl E k) (hci : P.cls[cn]? = some ci) (hM : M.map (fun m => m.2.2) = some cn) (h1000 : ci.flds.length < 1000) (hN : X.N[0]? = some x) (hv : visB X.env.scope x = true) (hn : nmOk x = true)
    (h0 : fs ≠ []) (hb : slfB x fs ts = true) (ha : PAv X G E P cl a vs) : PSv X G M E P cl n (.slf cn fs a) (.Assign [.Tuple ts k1 p1] (.Tuple vs k2 p2) pos) := by
  obtain ⟨l1, l2, l3, _⟩ := slfB_len hb (env := X.env)
  refine PS.imp (ps_asg (pe_tup (x1 := k2) (pos := p2) ha) (pg_tup hx.calm (pgs_slf hN hv hn hb) l1 l2) rfl (swapped_slf hb h0)) fun D σ H ⟨B0, H0, ad, z, s, at_, q⟩ => ?_
  obtain ⟨⟨x0, dx, cn'⟩, hm, rfl⟩ := Option.map_eq_some_iff.mp hM
  obtain ⟨fi, addr, fd, hfi, hm1, hfl, hnd, hC, Mk, F, S, hna, _⟩ := hx.wd.cls _ ci hci
  simp only [evS, hci] at q
  refine ⟨_, _, s, at_.masked (vars a), at_.bind (rel := relL G (Bm B0 ad z (vars a))) q fun ys s1 us H1 x1 g1 d1 a1 q1 => ?_⟩
  split at q1
  · rename_i hc
    have hlen : us.length = fs.length := d1.length.symm.trans hc.1
    have hle : fs.length ≤ ci.flds.length := by
      have := congrArg List.length hc.2
      rw [List.length_take, List.length_drop] at this
      omega
    refine ⟨by rw [hlen, sizeLine_eq]; omega, fun pp hp => ⟨pp, us, rfl, .of upd_same, hlen, ?_⟩⟩
    have hd : DenL G (Bz B0 ad (z.keep (Ah.D.immL ys) (vars a)).ow) H1 ys us := a1.cameL id d1
    have a2 := a1.keep (Ah.D.immL ys) (vars a)
    have xt := Ext.upd (G := G) (o := .tup us) hp
    have a3 := a2.later xt (g1.upd hp)
    refine slfs_run (K := X.K) hm (by rw [hfl]; exact hnd) hC.cl (by rw [hfl]; exact hna) (by rw [hfl]; exact h1000) a3 (hd.ext xt g1.dr a2.bz) hc.1 (by rw [keep_env.2, hfl]; exact hc.2) fun H' a' st' => ?_
    rw [keep_env.2] at a'
    exact q1 ad σ H' a' (((Stp.of xt (g1.upd (o := .tup us) hp).dr).less fun b hb => Bz_less keep_sub b hb).trans st')
  · exact q1.elim
end
end Ah

/-! ## AhTry -/
set_option Elab.async false
set_option linter.all false
set_option maxRecDepth 100000
set_option maxHeartbeats 2000000
/-! Ah: a try whose clause keeps the exception as a value. -/
namespace Ah
open PySem PySem.Spec PyProof.Rows L2
/-- the context of a suite whose exception is tracked -/
abbrev suiteT (X : Cx) (a : Addr) (pn : List (Addr × Obj)) : Cx := { X with A := X.A.mark (some (.ref a)), calm := false, pn := pn, xe := fun _ _ => False }
section
variable {X : Cx} {pins : List (Addr × Obj)} {σ : L2.St} {H : Hp} {s sI s' : Shared} {a : Addr} {B : Heap}
theorem okT (ok : X.Ok) (a : Addr) (pn : List (Addr × Obj)) : (suiteT X a pn).Ok :=
  ⟨ok.mod, ok.kind, ok.glob, ok.blt, ok.above, ok.inj, ok.has, ok.cab, (fun z => absurd (show false = true from z) Bool.false_ne_true), ok.frames, ok.stk, ok.exf, ok.bs, ok.bsz, ok.noex, ok.exfs, ok.funs, ok.frf⟩
theorem toT (I : Inv X pins σ H s) : Inv (suiteT X a (X.pn ++ pins)) [] σ H s :=
  ⟨okT I.ok _ _, I.os, I.bare, I.base, I.loc, I.cell, I.free, I.freeC, fun p hp => I.pin p (by simpa using hp), I.hok, I.len⟩
theorem ofT {pn' : List (Addr × Obj)} (I : Inv (suiteT X a (X.pn ++ pins)) pn' σ H s) (ok : X.Ok) : Inv X pins σ H s :=
  ⟨ok, I.os, I.bare, I.base, I.loc, I.cell, I.free, I.freeC, fun p hp => I.pin p (List.mem_append_left _ hp), I.hok, I.len⟩
theorem exT_ok {P : Program} {w : World} {h : Heap} {cls : Value} {d : Option Addr} {oe : Obj} {vs : Array Value} (e : h.get? a = some oe) (z : Zc cls d oe) (hd : oe.data = .fields vs) : ObjOk P w H h a (ExT cls d a) :=
  ⟨⟨oe, vs, e, z, hd⟩, ⟨oe, e⟩, fun _ _ ⟨o, v, q, r⟩ k => ⟨o, v, k o q, r⟩⟩
/-- the exception has landed, and is tracked from here on -/
theorem landedT {o : HO} (I : Inv X pins σ H sI) (na : sI.heap.get? a = none) (nH : H a = none) (nb : ∀ b u, sI.heap.get? b = some u → b ∉ frs X.stack → B.get? b = some u) (st : B.StaysIn s'.heap) (up : sI.heap.UpToSlots s'.heap) (os : s'.os = sI.os) (ag : AllBare s'.gens)
    (new : ObjOk X.prog X.w (L2.upd H a o) s'.heap a o) : Inv X pins σ (L2.upd H a o) s' := by
  have nf : ∀ b ∈ frs X.stack, ∀ u, sI.heap.get? b = some u → ∃ sl, s'.heap.get? b = some { u with slots := sl } := fun b hb u e => by
    obtain ⟨_, u', e', hd⟩ := I.stack.mem hb
    rw [e] at e'; cases e'
    exact up b u e hd
  have ne : ∀ b u, sI.heap.get? b = some u → b ≠ a := fun b u e z => by rw [z, na] at e; cases e
  refine I.call' (ch := []) os ⟨fun b u e _ hb _ => st b u (nb b u e hb), fun b u e _ hb _ => nf b hb u e, fun b u e n _ => by rw [upd_ne (ne b u e)]; exact n, fun b u e _ => ?_, fun b xs e => by rw [upd_ne (ne_of_none e nH)]; exact e, fun b u xs e => by rw [upd_ne (ne_of_none e nH)]; exact e, fun b ps e => ⟨#[], by rw [upd_ne (ne_of_none e nH), e]; simp⟩⟩ ?_ ag (fun _ z => nomatch z)
  · by_cases hb : b ∈ frs X.stack
    · obtain ⟨sl, q⟩ := nf b hb u e
      exact ⟨_, q⟩
    · exact ⟨u, st b u (nb b u e hb)⟩
  · exact HOk.laidN ((I.inGround nb).kept st) (fun _ _ q => q) nH new
end
/-- what the clause wishes of an exception of the body -/
def wAsT (K : PySem.W.Frag) (c : Value) (i : Nat) (ts : Addr → Value → Option Addr → TS) (Wout : WX) (D : Ends) : WX := fun cls d σ H =>
  ∃ b, PySem.W.exmOne K cls c = some b ∧ (b = true → ∀ a, H a = none → ts a cls d { nx := fun σ' H' => D.nx (σ'.set i none) H', rt := D.rt, bk := fun σ' H' => D.bk (σ'.set i none) H', ct := fun σ' H' => D.ct (σ'.set i none) H' } (σ.set i (some (.ref a))) (L2.upd H a (ExT cls d a))) ∧
    (b = false → Wout cls d σ H)
section
variable {X : Cx} {x n : Str} {c : Value} {i : Nat} {body suite : List Stmt} {b0 : Stmt} {np pos pos' : Pos} {tb : WX → TS} {ts : Addr → Value → Option Addr → TS} {Wout : WX}
theorem ps_try_keep (hs : X.stack = X.env :: X.outer) (hf : X.env.frame = some X.env.locals) (hN : X.N.Nodup) (hi : X.N[i]? = some n) (hln : X.env.kindOf n = some .local) (hc : Names X x c) (tk : Takes X Wout)
    (hb : ∀ (W : WX) (pn : List (Addr × Obj)) (xe : Value → Shared → Prop), Takes (X.tr pn xe) W → PassesOwn (model X.prog X.w) X.A X.env xe → PSs (X.tr pn xe) body (tb W))
    (hsu : ∀ (a : Addr) (cls : Value) (d : Option Addr) (pn : List (Addr × Obj)), PSs (suiteT X a pn) (b0 :: suite) (ts a cls d)) :
    PS X (.Try body [.ExceptHandler (some (.Name x np)) (some n) (b0 :: suite) pos'] [] [] pos) (fun D σ H => tb (wAsT X.K c i ts Wout D) D σ H) := by
  refine ⟨fun pins s σ H D I h => ?_⟩
  have ok := I.ok
  have hfr : X.A.frames = some (X.env :: X.outer) := by rw [ok.frames, hs]
  refine wpAny_Try_except ?_
  have run := hb (wAsT X.K c i ts Wout D) (X.pn ++ pins) (fun e s1 => wpAny (model X.prog X.w) X.A (noteFrame e X.env) (fun _ s2 => wpAny (model X.prog X.w) X.A (setFlight e none) (fun _ s3 =>
    wpAny (model X.prog X.w) X.A (handleBy e X.env [.ExceptHandler (some (.Name x np)) (some n) (b0 :: suite) pos']) (SP X pins D) X.xe s3) X.xe s2) X.xe s1) (fun u s' xx => ?_) PassesOwn.looking
  · refine wpAny_mono (run.run [] s σ H D (I.toTry _) h) (fun f s1 hsp => ?_) (fun e s1 he => he)
    cases f with
    | next => obtain ⟨σ', H', J', q⟩ := hsp; exact wpAny_execs_nil ⟨σ', H', J'.ofTry ok, q⟩
    | brk => obtain ⟨σ', H', J', q⟩ := hsp; exact ⟨σ', H', J'.ofTry ok, q⟩
    | cont => obtain ⟨σ', H', J', q⟩ := hsp; exact ⟨σ', H', J'.ofTry ok, q⟩
    | ret u => obtain ⟨v, σ', H', J', r, q⟩ := hsp; exact ⟨v, σ', H', J'.ofTry ok, r, q⟩
  · -- an exception comes out of the body
    obtain ⟨a, B, sI, pins', σ', H', cls, d, rfl, J', nb, up, sky, na, os, ag, b, hb1, hyes, hno⟩ := xx
    have J : Inv X pins σ' H' sI := J'.ofTry ok
    show wpAny (model X.prog X.w) X.A (noteFrame (.ref a) X.env) _ _ _
    refine Sky.land Zc.steady hfr hf (show Sky B (X.env :: X.outer) a (Zc cls d) X.env.locals s'.heap by rw [← hs]; exact sky) fun h3 fl3 up3 => ?_
    have J3 : Inv X pins σ' H' { s' with heap := h3 } := J.landed nb fl3.1 (up.trans up3) os ag
    obtain ⟨oe3, vs3, he3, hz3, hd3⟩ := fl3.there
    have nfr : a ∉ frs (X.env :: X.outer) := fun hm => by
      obtain ⟨_, o', e', hnf⟩ := fl3.2.2.1.mem hm
      rw [he3] at e'; cases e'
      exact hnf _ hd3
    have nL : a ≠ X.env.locals := fun z => nfr (List.mem_filterMap.mpr ⟨X.env, List.mem_cons_self, by rw [hf, z]⟩)
    have nF : a ∉ X.fs := fun hm => by
      obtain ⟨e, he, q⟩ := List.mem_filterMap.mp hm
      exact nfr (List.mem_filterMap.mpr ⟨e, List.mem_cons_of_mem _ he, q⟩)
    have S3 := J3.suite he3 hd3 na nL nF
    refine wpAny_handleBy_cons (codeAny_handlers_test ?_) (by intro q; cases q)
    have LM := PySem.W.exm_one (M := model X.prog X.w) (J3.kIn) (fun A Q E s k q => wpAny_typeOf_ref (k _ _ he3) (by rw [hz3.1]; exact q)) hb1
    have test : ∀ {Q : Value → Shared → Prop} {E : Value → Shared → Prop}, Q c { s' with heap := h3 } → wpAny (model X.prog X.w) (X.A.mark (some (.ref a))) (eval (.Name x np) X.env) Q E { s' with heap := h3 } := fun {Q E} q => by
      obtain ⟨hg, hdbg, hm | ⟨hm, hv, hnn⟩⟩ := hc
      · exact ld_glob (X := X.suite a ((a, oe3) :: (X.pn ++ pins))) S3 hg hm q hdbg
      · exact ld_blt (X := X.suite a ((a, oe3) :: (X.pn ++ pins))) S3 hg hm hv q hnn hdbg
    refine test (LM.here ?_)
    cases b with
    | true =>
      refine codeAny_handlers_suite_as ?_
      refine HandSPX.lands_againZ fl3 fun h4 fl4 up4 => ?_
      obtain ⟨oe4, vs4, he4, hz4, hd4⟩ := fl4.there
      have nI : sI.heap.get? a = none := by
        cases e : sI.heap.get? a with
        | none => rfl
        | some o =>
          have w := nb a o e (by rw [hs]; exact nfr)
          rw [fl4.2.1] at w
          cases w
      have J4 : Inv X pins σ' (L2.upd H' a (ExT cls d a)) { s' with heap := h4 } := landedT J nI na nb fl4.1 ((up.trans up3).trans up4) os ag (exT_ok he4 hz4 hd4)
      refine store_ok (X := suiteT X a (X.pn ++ pins)) (v := .ref a) (toT J4) hN hi (.inl hln) rfl (fun s5 S5 => ?_) (.inr hln)
      refine wpAny_mono ((hsu a cls d (X.pn ++ pins)).run [] s5 _ _ _ S5 (hyes rfl a na)) (fun f s6 hsp => ?_) (fun _ _ z => False.elim z)
      have end_ : ∀ {σ6 : L2.St} {H6 : Hp} {Q : Shared → Prop}, Inv (suiteT X a (X.pn ++ pins)) [] σ6 H6 s6 → (∀ s7, Inv X pins (σ6.set i none) H6 s7 → Q s7) →
          wpAny (model X.prog X.w) X.A (do bindName X.env n .none; unbindBehindTheSuite X.env n pos') (fun _ s7 => Q s7) X.xe s6 := fun {σ6 H6 Q} S6 hq => gone_ok (ofT S6 ok) hN hi hln hq
      cases f with
      | next => obtain ⟨σ6, H6, S6, q6⟩ := hsp; exact end_ S6 fun s7 J7 => ⟨_, _, J7, q6⟩
      | brk => obtain ⟨σ6, H6, S6, q6⟩ := hsp; exact end_ S6 fun s7 J7 => ⟨_, _, J7, q6⟩
      | cont => obtain ⟨σ6, H6, S6, q6⟩ := hsp; exact end_ S6 fun s7 J7 => ⟨_, _, J7, q6⟩
      | ret u => obtain ⟨v6, σ6, H6, S6, r6, q6⟩ := hsp; exact end_ S6 fun s7 J7 => ⟨_, _, _, J7, r6, q6⟩
    | false =>
      show wpAny _ X.A (handleBy (.ref a) X.env []) _ _ _
      refine wpAny_handleBy_nil ?_
      obtain ⟨k1, k2, k3, oe, vs, T, oT, ts', he, hz, hd, h1, hr⟩ := id fl3
      unfold PySem.passOn
      refine wpAny_bind (wpAny_field he hd h1 ?_)
      rw [if_neg (show ¬ ((Value.ref T == Value.none) = true) from by simp)]
      have fin : wpAny (model X.prog X.w) X.A (setFlight (.ref a) X.env.frame) (fun _ s4 => wpAny (model X.prog X.w) X.A (throw (.ref a) : Sem Flow) (SP X pins D) X.xe s4) X.xe { s' with heap := h3 } := by
        rw [hf]
        refine HandSPX.setFlight_upZ fl3 fun h4 hh4 up4 => wpAny_throw (tk _ _ ?_)
        exact ⟨a, B, sI, pins, σ', H', cls, d, rfl, J, nb, (up.trans up3).trans up4, .inr (.inr (by rw [hs]; exact hh4)), na, os, ag, hno rfl⟩
      first
        | exact wpAny_bind (wpAny_pure (wpAny_bind fin))
        | exact wpAny_bind fin
end
end Ah

/-! ## AhL -/
set_option Elab.async false
set_option linter.all false
set_option maxRecDepth 100000
set_option maxHeartbeats 2000000
/-! Ah: a def that keeps the error of what it is handed. -/
namespace Ah
open PySem PySem.Spec PyProof.Rows L2
theorem PS.long {X : Cx} {st : Stmt} {t : TS} (h : PS X st t) : PS X st (fun D σ H => σ.length = X.N.length → t D σ H) := ⟨fun pins s σ H D I q => h.run pins s σ H D I (q I.len)⟩
/-- the body of such a def -/
structure CaughtB (bg : List Stmt) (sg : Scope) (Ng : List Str) (a e : Str) : Prop where
  body : ∃ (j2 : Nat) (n1 n2 : Str) (p3 p4 p5 p6 p7 p8 p9 p10 p11 p12 p13 p14 p15 p16 : Pos), Ng = [a, n1, n2] ∧ bg = [.Assign [.Name n1 p3] (.Constant .none j2 p4) p5,
    .Try [.Expr (.Call (.Name a p6) [] [] p7) p8] [.ExceptHandler (some (.Name e p9)) (some n2) [.Assign [.Name n1 p10] (.Name n2 p11) p12] p13] [] [] p14, .Return (some (.Name n1 p15)) p16] ∧
    sg.names.lookup n1 = some .local ∧ sg.names.lookup n2 = some .local ∧ nmOk n1 = true ∧ nmOk n2 = true
  nd : Ng.Nodup
/-- what it makes of what it is handed -/
def TTk (K : PySem.W.Frag) (CS : Addr) : (XK → Hp → VK → Prop) → Hp → VK → Prop := fun tl H Q =>
  tl (fun cls d H' => PySem.W.exmOne K cls (.ref CS) = some true ∧ ∀ a, H' a = none → Q (.ref a) (L2.upd H' a (ExT cls d a))) H (fun _ H' => Q .non H')
theorem caught_gives {X : Cx} {Ng : List Str} {x a e q : Str} {sg : Scope} {g CS : Addr} {cdg : Value} {bg : List Stmt} (hB : CaughtB bg sg Ng a e) (hge : sg.names.lookup e = some .globalImplicit) (hme : X.mg e = some (.ref CS)) (hde : (e == ("__debug__" : Str)) = false) :
    LamX.GivesTo X Ng x sg g cdg bg a q (TTk X.K CS) := by
  intro f c' s H Q tl act hc h
  obtain ⟨⟨j2, n1, n2, p3, p4, p5, p6, p7, p8, p9, p10, p11, p12, p13, p14, p15, p16, rfl, rfl, l1, l2, k1, k2⟩, nd⟩ := hB
  have hgl : Gl (cxOf C8.CX0 X.prog X.w X.K X.mg X.base [a, n1, n2] x sg g cdg X.A X.stack s H C8.E0).nox e := hge
  have suite : ∀ (b : Addr) (pn : List (Addr × Obj)), PSs (suiteT (cxOf C8.CX0 X.prog X.w X.K X.mg X.base [a, n1, n2] x sg g cdg X.A X.stack s H C8.E0).nox b pn) [.Assign [.Name n1 p10] (.Name n2 p11) p12] (fun D σ H => σ.length = 3 → tAsg (tVar 2) (gName 1) D σ H) := fun b pn =>
    pss_one (PS.long (ps_set (i := 1) nd rfl (.inl l1) (pe_var (i := 2) rfl (.inl l2) (nmOk_1 k2) (nmOk_2 k2))))
  refine ⟨_, pss_cons (ps_set (i := 1) (pos' := p3) nd rfl (.inl l1) pe_non) (pss_cons (ps_try_keep (c := .ref CS) (i := 2) rfl rfl nd rfl l2 ⟨hgl, hde, .inl hme⟩ LamX.takes0
      (tb := fun W D σ H => ∃ Ech : XK, (∀ cls d σ' H', Ech cls d H' → W cls d σ' H') ∧ σ[0]? = some (some (.ref f)) ∧ H c' = some (LamX.CodeO c' q) ∧ tl Ech H (fun _ H' => D.nx σ H'))
      (fun W pn xe tk _ => ?_) (fun b cls d pn => suite b pn)) (pss_one (ps_ret (pe_var (i := 1) rfl (.inl l1) (nmOk_1 k1) (nmOk_2 k1))))), ?_⟩
  · refine ⟨fun pins s' σ H' D I h' => ?_⟩
    obtain ⟨Ech, hW, h1, h2, h3⟩ := h'
    have hp := act W pn xe Ech p6 p7 tk hW
    exact (pss_one (ps_expr (pos := p8) hp)).run pins s' σ H' D I ⟨h1, h2, h3⟩
  · have e1 : ∀ H', tRet (tVar 1) { nx := fun _ H' => Q .non H', rt := Q } ((L2.start [a, n1, n2] [V.ref f]).set 1 (some .non)) H' = Q .non H' := fun H' => propext ⟨fun ⟨v, e, w⟩ => by cases (Option.some.inj (Option.some.inj e)); exact w, fun w => ⟨.non, rfl, w⟩⟩
    refine ⟨fun cls d H' => PySem.W.exmOne X.K cls (.ref CS) = some true ∧ ∀ b, H' b = none → Q (.ref b) (L2.upd H' b (ExT cls d b)), fun cls d σ' H' ⟨w1, w2⟩ => ⟨true, w1, fun _ b nb hl => ?_, fun z => nomatch z⟩, rfl, hc, ?_⟩
    · have hl : (σ'.set 2 (some (V.ref b))).length = 3 := hl
      have hl' : σ'.length = 3 := by rw [List.length_set] at hl; exact hl
      obtain ⟨x0, x1, x2, rfl⟩ : ∃ x0 x1 x2, σ' = [x0, x1, x2] := by
        match σ', hl' with
        | [x0, x1, x2], _ => exact ⟨x0, x1, x2, rfl⟩
      exact ⟨.ref b, rfl, .ref b, rfl, w2 b nb⟩
    · have h : tl (fun cls d H' => PySem.W.exmOne X.K cls (.ref CS) = some true ∧ ∀ a, H' a = none → Q (.ref a) (L2.upd H' a (ExT cls d a))) H (fun _ H' => Q .non H') := h
      have e2 : (fun (_ : V) (H' : Hp) => tRet (tVar 1) { nx := fun _ H' => Q .non H', rt := Q } ((L2.start [a, n1, n2] [V.ref f]).set 1 (some .non)) H') = fun _ H' => Q .non H' := funext fun _ => funext e1
      show tl _ H (fun (_ : V) (H' : Hp) => tRet (tVar 1) { nx := fun _ H' => Q .non H', rt := Q } ((L2.start [a, n1, n2] [V.ref f]).set 1 (some .non)) H')
      rw [e2]
      exact h
/-- what a call of such a def with a lambda asks -/
structure LOk (X : Cx) (G : Ah.G) (P : Prg) (k : Nat) (x : Str) : Prop where
  room : Room (k + 4) X.A
  fn : ∃ (a e : Str) (g CS : Addr) (pg : Arguments) (bg : List Stmt) (sg : Scope) (dV kV doc pm cdv ct oc : Value) (an od : Option Addr) (osl : Array (Option Value)) (Ng : List Str), X.mg x = some (.ref g) ∧ PySem.W.keepIn X.K (.ref g) = true ∧
    X.K.lookup g = some ⟨oc, od, .func (PySem.W.fnOf x x pg bg sg dV kV doc pm an cdv ct), osl⟩ ∧ PySem.W.codeIn X.K cdv x = true ∧ L2.Binds X.K (PySem.W.fnOf x x pg bg sg dV kV doc pm an cdv ct) [a] [] ∧ FnScope Ng [a] sg ∧ Ng[0]? = some a ∧ Vis sg a ∧
    CaughtB bg sg Ng a e ∧ sg.names.lookup e = some .globalImplicit ∧ X.mg e = some (.ref CS) ∧ nmOk e = true ∧ nmOk a = true ∧ ∀ c, PySem.W.exmOne X.K (.ref (G.ecl c).1) (.ref CS) = some true
  tab : ∃ c PT, LamX.TabB X.base X.mg c PT ∧ X.env.code = .ref c ∧ (PT, X.env.qual ++ "<lambda>") ∈ G.T ∧ ∀ p ∈ G.T, p.1 = PT → p.2 = X.env.qual ++ "<lambda>"
section
variable {X : Cx} {G : Ah.G} {E : XK} {P : Prg} {SH : Shapes} {cl : Cl} {k : Nat} {pos p lpos : Pos} {e ea body : Expr} {a b c : C}
theorem pv_caught {x : Str} {params : Arguments} {scope : Scope} (hx : XOk X G P SH cl E k) (hL : LOk X G P k x) (hgl : glB X.env.scope x = true) (hnm : nmOk x = true) (hs : LamX.lamSB X.env.scope scope = true) (hdef : defaultsOf params X.env = ([], []))
    (hbind : ∀ (q : Str) (cl : List (Str × Addr)) (pm cv ctv : Value), bindArgs (PySem.W.kla_fn "<lambda>" q params body scope cl pm cv ctv) ⟨[], []⟩ = pure [])
    (hb : ∀ (A : Around) (outer : List Env) (s : Shared) (H : Hp) (E' : XK) (f c' : Addr), Room (k + 2) (A.deeper (LamX.lamEnv X scope s.heap.objs.size f c')) → PEv (LamX.lamCx X A outer s H E' scope f c') G E' P cl a body) :
    PEv X G E P cl (.caught a) (.Call (.Name x p) [.Lambda params body scope lpos] [] pos) := by
  obtain ⟨a0, e0, g, CS, pg, bg, sg, dV, kV, doc, pm, cdv, ct, oc, an, od, osl, Ng, h1, h2, h3, h4, h5, h6, h7, h8, h9, h10, h11, h12, h13, h14⟩ := hL.fn
  obtain ⟨c0, PT, t1, t2, t3, t4⟩ := hL.tab
  refine PE.imp (LamX.pe_lamcall (k := k + 2) (t := fun E' => tR G E' (ev P cl a)) (gl_of hgl) h1 h2 h3 h4 h5 h6 h7 h8 (caught_gives h9 h10 h11 (nmOk_1 h12)) t1 t2 t3 t4 hL.room (LamX.lamS_by hs) hdef hbind (hb) (nmOk_1 hnm) (nmOk_1 h13) (nmOk_2 h13)) fun σ H Q ⟨B, env, s, at_, q⟩ => ?_
  · simp only [ev] at q
    refine ⟨at_.good.tabs, fun H1 eN T1 => ?_⟩
    have x1 : Ext G H H1 := fun b o e _ t => eN b o e t
    have dr := at_.good.dr
    have g1 : Good G s H1 := ⟨⟨fun hl => eN _ _ (dr.d hl) fun _ z => (nomatch z), fun hl => eN _ _ (dr.l hl) fun _ z => (nomatch z), fun hl => eN _ _ (dr.c hl) fun _ z => (nomatch z), dr.ne, dr.eq⟩, T1⟩
    refine ⟨B, env, s, at_.ext x1 g1, ?_⟩
    cases hr : ev P cl a env s with
    | ok d s2 =>
      rw [hr] at q
      exact fun v H2 x2 g2 _ => q .non H2 (x1.trans x2) g2 .non
    | exc cc ds s2 =>
      rw [hr] at q
      intro cls d H2 x2 g2 ix
      obtain ⟨rfl, xf⟩ := ix
      refine ⟨h14 cc, fun b hb => ?_⟩
      have xu : Ext G H2 (L2.upd H2 b (ExT (.ref (G.ecl cc).1) d b)) := Ext.upd hb
      exact q _ _ ((x1.trans x2).trans xu) (g2.upd hb) (.exc upd_same (xf.ext xu g2.dr))
    | no => rw [hr] at q; exact q.elim
end
end Ah

/-! ## AhDw -/
set_option Elab.async false
set_option linter.all false
set_option maxRecDepth 100000
set_option maxHeartbeats 2000000
/-! Ah: the draw read and written; dict displays; a lambda that appends. -/
namespace Ah
open PySem PySem.Spec PyProof.Rows L2
section
variable {X : Cx} {G : Ah.G} {M : Me} {E : XK} {P : Prg} {SH : Shapes} {cl : Cl} {k n : Nat} {pos p p0 p1 p2 p3 : Pos} {e ea eb tg : Expr} {a b c : C} {s s' : Dr} {H H' : Hp} {Q : VK} {sa : Sx}
theorem den_drw {B : Bar} {v : V} (h : Den G B H .drw v) : v = .ref G.dp ∧ G.live = true := by
  cases h with
  | drw hl => exact ⟨rfl, hl⟩
theorem dv_rest : valV (drD G s) (.inr "rest") = some (.int s.rest) := rfl
theorem dv_turn : valV (drD G s) (.inr "turn") = some (.int s.turn) := rfl
theorem dv_large : valV (drD G s) (.inr "large") = some (.ref G.lp) := rfl
theorem dv_cells : valV (drD G s) (.inr "cells") = some (.ref G.cp) := rfl
theorem dg {x : Str} {v : V} (hl : G.live = true) (d : DrAt G s H) (h : valV (drD G s) (.inr x) = some v) : DGet H G.dp (.str x) (some v) := by
  rw [← h]; exact DGet.k (k := .inr x) (d.d hl)
/-- draw[x] as a text -/
theorem pe_dg {x : Str} {j : Nat} (hx : XOk X G P SH cl E k) (ha : PEv X G E P cl a ea) : PE X (.Subscript ea (.Constant (.str x) j p) pos) (tDGet (tR G E (ev P cl a)) (fun σ H Q => Q (.str x) H)) :=
  pe_dget (by have := hx.hu; omega) ha pe_str (fun _ _ => rfl)
theorem pv_dgi {x : Str} {j : Nat} (hx : XOk X G P SH cl E k) (ha : PEv X G E P cl a ea) : PEv X G E P cl (.dgi a x) (.Subscript ea (.Constant (.str x) j p) pos) := by
  refine PE.imp (pe_dg hx ha) fun σ H Q ⟨B, env, s, at_, h⟩ => ?_
  simp only [ev] at h
  refine one at_ h fun d s vx H' x1 at' d1 h' => ?_
  split at h'
  · obtain ⟨rfl, hl⟩ := den_drw d1
    obtain ⟨d', e1, h'⟩ := fin_ofO h'
    unfold Dr.get at e1
    split at e1
    · rename_i hh
      cases e1; subst hh
      exact ⟨_, _, rfl, dg hl at'.good.dr dv_rest, fin.here h' at'.good (.int _)⟩
    · split at e1
      · rename_i hh
        cases e1; subst hh
        exact ⟨_, _, rfl, dg hl at'.good.dr dv_turn, fin.here h' at'.good (.int _)⟩
      · cases e1
  · exact h'.elim
theorem ints_dp {K : PySem.W.Frag} : ∀ l : List Int, DpAll K H (l.map V.int) (l.map PyData.int)
  | [] => .nil
  | i :: l => .cons (.int i) (ints_dp l)
theorem ints_lay : ∀ l : List Int, PyData.canLayAll0 (l.map PyData.int) = true
  | [] => rfl
  | i :: l => by show (PyData.canLay0 (.int i) && PyData.canLayAll0 (l.map PyData.int)) = true; rw [ints_lay l]; rfl
theorem ints_dep : ∀ l : List Int, PyData.depthAll (l.map PyData.int) ≤ 1
  | [] => by decide
  | i :: l => by
    have := ints_dep l
    simp only [List.map_cons, PyData.depthAll, PyData.depth]
    omega
theorem ints_shaped (l : List Int) : PySem.SeqAt.shaped (.list (l.map PyData.int)) = true := by
  unfold PySem.SeqAt.shaped
  have h1 : PyData.canLay0 (.list (l.map PyData.int)) = true := ints_lay l
  have h2 := ints_dep l
  have h3 : (PyData.list (l.map PyData.int)).depth ≤ 64 := by
    simp only [PyData.depth]; omega
  rw [h1, decide_eq_true h3]; rfl
theorem ints_nil (l : List Int) : PyData.eqv (.list (l.map PyData.int)) (.list []) = l.isEmpty := by
  cases l <;> rfl
theorem dne_core {x1 : V} {ll : List Int} {q : Addr} (hu : X.A.units + 64 < cLine) (e : H G.lp = some (.lst (ll.map V.int))) (hq : H q = none) (h : Q (.bl (!ll.isEmpty)) (L2.upd H q (.lst []))) : rW X (compareOp .NotEq) (.ref G.lp) (.ref q) (L2.upd H q (.lst [])) Q := by
  refine rW_of (op_neD hu) ⟨_, _, .lst (.of (by rw [upd_ne (ne_of_none e hq)]; exact e)) (ints_dp ll), .lst (ds := []) (.of upd_same) .nil, ints_shaped ll, ints_shaped [], ?_⟩
  rw [ints_nil]; exact h
theorem pv_dne {j : Nat} (hx : XOk X G P SH cl E k) (ha : PEv X G E P cl a ea) : PEv X G E P cl (.dne a) (.Compare (.Subscript ea (.Constant (.str "large") j p) p1) [.NotEq] [.List [] p2] pos) := by
  refine PE.imp (pe_cmpR opr_W (pe_dg hx ha) (pe_lst pa_nil) rfl) fun σ H Q ⟨B, env, s, at_, h⟩ => ?_
  simp only [ev] at h
  refine one at_ h fun d s vx H' x1 at' d1 h' => ?_
  split at h'
  · obtain ⟨rfl, hl⟩ := den_drw d1
    refine ⟨_, _, rfl, dg hl at'.good.dr dv_large, Nat.zero_le _, fun q hq => ?_⟩
    exact dne_core (x1 := .non) (by have := hx.hu; omega) (at'.good.dr.l hl) hq (h' _ _ (Ext.upd hq) (at'.good.upd hq) (.bl _))
  · exact h'.elim
theorem ptv_dne {j : Nat} (hK : G.K = X.K) (hx : XOk X G P SH cl E k) (ha : PEv X G E P cl a ea) : PTv X G E P cl (.dne a) (.Compare (.Subscript ea (.Constant (.str "large") j p) p1) [.NotEq] [.List [] p2] pos) := by
  refine PT.imp (pt_cmpR opr_W (pe_dg hx ha) (pe_lst pa_nil) rfl) fun σ H Q ⟨B, env, s, at_, h⟩ => ?_
  have h : fin (relD G B) G E H (fun x H' => ∃ k, x = .bl k ∧ Q k H') (ev P cl (.dne a) env s) := by
    unfold evB at h
    refine h.bind fun d s1 v H1 er x1 g1 d1 h1 => ?_
    have : ∃ k, d = .bl k := by
      simp only [ev] at er
      cases e1 : ev P cl a env s with
      | ok x s2 =>
        rw [e1] at er
        simp only [R.bind_ok] at er
        split at er
        · cases er; exact ⟨_, rfl⟩
        · cases er
      | exc c ds s2 => rw [e1] at er; cases er
      | no => rw [e1] at er; cases er
    obtain ⟨k, rfl⟩ := this
    cases d1
    exact ⟨k, rfl, h1 k H1 Ext.refl g1 rfl⟩
  simp only [ev] at h
  refine one at_ h fun d s vx H' x1 at' d1 h' => ?_
  split at h'
  · obtain ⟨rfl, hl⟩ := den_drw d1
    refine ⟨_, _, rfl, dg hl at'.good.dr dv_large, Nat.zero_le _, fun q hq => ?_⟩
    exact dne_core (x1 := .non) (by have := hx.hu; omega) (at'.good.dr.l hl) hq (h' _ _ (Ext.upd hq) (at'.good.upd hq) (.bl _))
  · exact h'.elim
/-! ### writes -/
theorem Ext.wrD {q : Addr} {o : HO} (h : isDr G q) : Ext G H (L2.upd H q o) := fun b u e n t => by rw [upd_ne (fun z => n (by rw [z]; exact h))]; exact e
theorem good_pop {i : Int} {l : List Int} (hl : G.live = true) (g : Good G s H) (h : s.large = i :: l) : Good G { s with large := l } (L2.upd H G.lp (.lst (l.map V.int))) := by
  have dl := g.dr.l hl
  have nd : G.dp ≠ G.lp := fun z => by have w := g.dr.d hl; rw [z, dl] at w; cases w
  exact ⟨⟨fun _ => by rw [upd_ne nd]; exact g.dr.d hl, fun _ => upd_same, fun _ => by rw [upd_ne (g.dr.ne hl).symm]; exact g.dr.c hl, g.dr.ne, g.dr.eq⟩, tabs_wrG g.tabs dl (.lst _)⟩
theorem pv_dpop {j j2 : Nat} {cpos : Pos} (hx : XOk X G P SH cl E k) (hline : (p2.endLine == cpos.line) = true) (ha : PEv X G E P cl a ea) :
    PEv X G E P cl (.dpop a) (.Call (.Attribute (.Subscript ea (.Constant (.str "large") j p) p1) "pop" p2) [.Constant (.int 0) j2 p3] [] cpos) := by
  refine PE.imp (pe_bm PySem.F.plainAttrs_list PySem.F.slot_list_pop PySem.F.type_list_pop mt_popAt (pe_dg hx ha) (pa_cons pe_int pa_nil rfl) rfl rfl hline rfl rfl) fun σ H Q ⟨B, env, s, at_, h⟩ => ?_
  simp only [ev] at h
  refine one at_ h fun d s vx H' x1 at' d1 h' => ?_
  split at h'
  · split at h'
    · rename_i i l hlg
      obtain ⟨rfl, hl⟩ := den_drw d1
      have dl := at'.good.dr.l hl
      refine ⟨_, _, rfl, dg hl at'.good.dr dv_large, .inl ⟨rfl, _, .of dl⟩, ?_⟩
      refine ⟨G.lp, _, 0, 0, .int i, rfl, rfl, dl, by decide, by decide, ?_, by rw [hlg]; rfl, ?_⟩
      · rw [hlg, List.map_cons, List.length_cons]
        unfold seqIndex?
        simp
      · rw [hlg]
        exact h' _ _ (Ext.wrD ⟨hl, .inr (.inl rfl)⟩) (good_pop hl at'.good hlg) (.int _)
    · exact h'.elim
  · exact h'.elim
theorem good_put {x : Str} {i : Int} (g : Good G s H) (h : s.put x (.int i) = some s') : ∃ v, valV (drD G s) (.inr x) = some v ∧ putK (drD G s) (.inr x) (.int i) = drD G s' ∧ s'.large = s.large ∧ s'.cells = s.cells := by
  unfold Dr.put at h
  simp only at h
  split at h
  · rename_i hh
    cases h; subst hh
    exact ⟨_, dv_rest, rfl, rfl, rfl⟩
  · split at h
    · rename_i hh
      cases h; subst hh
      exact ⟨_, dv_turn, rfl, rfl, rfl⟩
    · cases h
theorem good_dset {x : Str} {i : Int} (hl : G.live = true) (g : Good G s H) (h : s.put x (.int i) = some s') : Good G s' (L2.upd H G.dp (.dK (putK (drD G s) (.inr x) (.int i)))) := by
  obtain ⟨v, _, e1, e2, e3⟩ := good_put g h
  have dd := g.dr.d hl
  have n1 : G.lp ≠ G.dp := fun z => by have w := g.dr.l hl; rw [z, dd] at w; cases w
  have n2 : G.cp ≠ G.dp := fun z => by have w := g.dr.c hl; rw [z, dd] at w; cases w
  exact ⟨⟨fun _ => by rw [upd_same, e1], fun _ => by rw [upd_ne n1, e2]; exact g.dr.l hl, fun _ => by rw [upd_ne n2, e3]; exact g.dr.c hl, g.dr.ne, fun _ => by rw [e3]; exact g.dr.eq hl⟩, tabs_wrG g.tabs dd (.dK _)⟩
theorem sv_dset {x : Str} {j : Nat} (hx : XOk X G P SH cl E k) (ha : PEv X G E P cl a ea) (hb : PEv X G E P cl b eb) (hs : ∀ o, swapsWith eb o pos.line X.env = pure false) : PSv X G M E P cl n (.dset a x b) (.Assign [.Subscript ea (.Constant (.str x) j p) p1] eb pos) := by
  refine PS.imp (ps_dput (by have := hx.hu; omega) ha pe_str hb (hs _)) fun D σ H ⟨B0, H0, ad, z, s, at_, q⟩ => ?_
  simp only [evS] at q
  refine ⟨_, _, s, at_.full, at_.bind (rel := relD G B0) q fun dv s1 v H1 x1 g1 d1 a1 q1 => ?_⟩
  refine ⟨_, _, s1, a1.full, a1.bind (rel := relD G B0) q1 fun y s2 vy H2 x2 g2 d2 a2 q2 => ?_⟩
  split at q2
  · split at q2
    · rename_i s3 h3
      obtain ⟨rfl, hl⟩ := den_drw d2
      cases dv <;> try (cases h3; done)
      rename_i iv
      have d1 := d1.ext x2 g1.dr a1.bok
      cases d1
      have gd := good_dset hl g2 h3
      have xx : Ext G H2 (L2.upd H2 G.dp (.dK (putK (drD G s2) (.inr x) (.int iv)))) := Ext.wrD ⟨hl, .inl rfl⟩
      refine ⟨G.dp, _, rfl, DPut.k (k := .inr x) (g2.dr.d hl) (by show 4 < sizeLine; rw [sizeLine_eq]; decide), ?_⟩
      exact q2 ad σ _ (a2.later xx gd) (a2.stp xx gd)
    · exact q2.elim
  · exact q2.elim
/-! ### the cells walked -/
theorem wk_cells {B : Bar} (hl : G.live = true) : Wk G B (Itl G.K G.cp) (G.cells.map D.int) H := by
  intro B' hb hd s i H1 x g
  have e1 : H1 G.cp = some (.lst (G.cells.map V.int)) := by rw [← g.dr.eq hl]; exact g.dr.c hl
  refine ⟨fun hi => walk_list.stops H1 (.of e1) |> fun z => by rw [hi, List.length_map] ; rw [List.length_map] at z; exact z, fun d hd' => ?_⟩
  rw [List.getElem?_map] at hd'
  obtain ⟨c, h1, rfl⟩ := Option.map_eq_some_iff.mp hd'
  have hv : (G.cells.map V.int)[i]? = some (.int c) := by rw [List.getElem?_map, h1]; rfl
  have hlt : i < (G.cells.map V.int).length := (List.getElem?_eq_some_iff.mp hv).1
  refine ⟨walk_list.goes i H1 hlt (.of e1), fun w H2 hy => ?_⟩
  obtain ⟨rfl, h3⟩ := walk_list.yields i H1 w H2 hlt (.of e1) hy
  rw [hv] at h3
  cases h3
  exact ⟨Ext.refl, g, .int _⟩
theorem pi_cells {j : Nat} (hx : XOk X G P SH cl E k) (ha : PEv X G E P cl a ea) : PI X tg (.Subscript ea (.Constant (.str "cells") j p) pos) (tRIb true G E fun env s => (ev P cl a env s).bind fun y s => match y with | .drw => .ok (s.cells.map .int) s | _ => .no) := by
  refine Ah.PI.imp (pi_list (pe_dg hx ha)) fun σ H R' ⟨B, env, s, at_, q⟩ => ?_
  refine ⟨B, env, s, at_, q.bind fun y s1 vy H1 _ x1 g1 d1 q1 => ?_⟩
  split at q1
  · obtain ⟨rfl, hl⟩ := den_drw d1
    refine ⟨_, _, rfl, dg hl g1.dr dv_cells, _, rfl, ⟨_, .of (g1.dr.c hl)⟩, ?_⟩
    refine q1 _ H1 Ext.refl g1 fun B' _ => ?_
    rw [g1.dr.eq hl, ← hx.K]
    exact wk_cells hl
  · exact q1.elim
end
end Ah

/-! ## AhDx -/
set_option Elab.async false
set_option linter.all false
set_option maxRecDepth 100000
set_option maxHeartbeats 2000000
/-! Ah: dict displays; a lambda that appends; the loop over the draw's cells. -/
namespace Ah
open PySem PySem.Spec PyProof.Rows L2
section
variable {X : Cx} {G : Ah.G} {M : Me} {E : XK} {P : Prg} {SH : Shapes} {cl : Cl} {k n : Nat} {pos p p0 p1 p2 p3 : Pos} {e ea eb tg it : Expr} {a b c : C} {s s' : Dr} {H H' : Hp} {sa : Sx}
theorem sv_forC {tgt : Tg} {body : List Stmt} {j : Nat} (h0 : ∀ i ∈ tgt.ixs, M = none ∨ i ≠ 0) (hx : XOk X G P SH cl E k) (hp : PassesOwn (model X.prog X.w) X.A X.env X.xe) (ha : PEv X G E P cl a ea) (hg : PG X tg (tgG X.K tgt)) (hb : PSsv X G M E P cl n sa body) :
    PSv X G M E P cl n (.forC tgt a sa) (.For tg (.Subscript ea (.Constant (.str "cells") j p) p1) body [] pos) :=
  sv_forG (us := vars a) (fl := true) (fun z s => by simp only [evS] <;> rfl) h0 hx hp (pi_cells hx ha) hg hb (fun _ => rfl)
/-! ### dict displays -/
def trsD (G : Ah.G) (E : XK) (P : Prg) (cl : Cl) : List Key → C → List (TE × TE)
  | key :: ks, .cons a r => ((fun σ H Q => Q (kV key) H), tR G E (ev P cl a)) :: trsD G E P cl ks r
  | _, _ => []
def keyE : Key → Expr → Bool
  | .inl i, .Constant (.int i') _ _ => decide (i = i')
  | .inr x, .Constant (.str x') _ _ => decide (x = x')
  | _, _ => false
def chkD (f : C → Expr → Bool) : List Key → C → List (Option Expr) → List Expr → Bool
  | [], .nil, [], [] => true
  | key :: ks, .cons a r, some ek :: es, e :: vs => keyE key ek && f a e && chkD f ks r es vs
  | _, _, _, _ => false
theorem pe_key {key : Key} {e : Expr} (h : keyE key e = true) : PE X e (fun σ H Q => Q (kV key) H) := by
  unfold keyE at h
  split at h
  · cases of_decide_eq_true h; exact pe_int
  · cases of_decide_eq_true h; exact pe_str
  · cases h
theorem chkD_ok {f : C → Expr → Bool} (hf : ∀ c e, f c e = true → PEv X G E P cl c e) : ∀ {ks : List Key} {c : C} {es : List (Option Expr)} {vs : List Expr}, chkD f ks c es vs = true →
    PPs X pos es vs (trsD G E P cl ks c) ∧ es.all (·.isSome) = true ∧ es.length = vs.length ∧ es.length = ks.length
  | [], .nil, [], [], _ => ⟨pps_nil, rfl, rfl, rfl⟩
  | key :: ks, .cons a r, some ek :: es, e :: vs, h => by
    simp only [chkD, Bool.and_eq_true] at h
    obtain ⟨h1, h2, h3, h4⟩ := chkD_ok hf h.2
    exact ⟨pps_cons (pe_key h.1.1) (hf _ _ h.1.2) h1, by simpa using h2, by simp [h3], by simp [h4]⟩
theorem dpairs {f : C → Expr → Bool} {B : Bar} {env : En} {σ : L2.St} : ∀ {ks : List Key} {c : C} {es : List (Option Expr)} {vs : List Expr} {s : Dr} {H : Hp} {R : List V → Hp → Prop} {Q' : List (V × V) → Hp → Prop}, chkD f ks c es vs = true → At G B env s σ H → fin (relL G B) G E H R (evL P cl c env s) →
    (∀ ws H2, ws.length = ks.length → R ws H2 → Q' ((ks.zip ws).map (fun kv => (kV kv.1, kv.2))) H2) → tPairs (trsD G E P cl ks c) σ H Q'
  | [], .nil, [], [], s, H, R, Q', _, at_, q, hQ => hQ [] H rfl (q _ _ Ext.refl at_.good .nil)
  | key :: ks, .cons a r, some ek :: es, e :: vs, s, H, R, Q', h, at_, q, hQ => by
    simp only [chkD, Bool.and_eq_true] at h
    simp only [evL] at q
    refine ⟨B, env, s, at_, q.bind fun d s1 v H1 _ x1 g1 d1 q1 => ?_⟩
    have at1 := at_.ext x1 g1
    have q2 : fin (relL G B) G E H1 (fun ws H2 => R (v :: ws) H2) (evL P cl r env s1) := q1.bind fun ds s2 ws H2 _ x2 g2 d2 q2 => q2 _ _ Ext.refl g2 (.cons (d1.ext x2 g1.dr at1.bok) d2)
    exact dpairs (R := fun ws H2 => R (v :: ws) H2) h.2 at1 q2 fun ws H3 hw hR => hQ (v :: ws) H3 (by simp [hw]) hR
theorem val_no {kvs : List (Key × V)} {key : Key} (h : key ∉ kvs.map (·.1)) : valV kvs key = none := by
  induction kvs with
  | nil => rfl
  | cons kv r ih =>
    rw [List.map_cons, List.mem_cons, not_or] at h
    rw [valV_neg (fun z => h.1 z.symm)]
    exact ih h.2
theorem merge_app : ∀ (more acc : List (Key × V)), (acc.map (·.1) ++ more.map (·.1)).Nodup → mergeK acc more = acc ++ more
  | [], acc, _ => by simp [mergeK]
  | kv :: more, acc, h => by
    have h1 : kv.1 ∉ acc.map (·.1) := fun z => by
      rw [List.map_cons, List.nodup_append] at h
      exact h.2.2 _ z _ List.mem_cons_self rfl
    have e : mergeK acc (kv :: more) = mergeK (putK acc kv.1 kv.2) more := rfl
    rw [e, putK_new _ (val_no h1), merge_app more]
    · simp
    · rw [List.map_append, List.map_cons, List.map_nil, List.append_assoc]
      simpa using h
theorem zip_fst : ∀ (ks : List Key) (ws : List V), ws.length = ks.length → (ks.zip ws).map (·.1) = ks
  | [], _, _ => rfl
  | _ :: ks, [], h => by simp at h
  | k :: ks, w :: ws, h => by
    rw [List.zip_cons_cons, List.map_cons, zip_fst ks ws (by simpa using h)]
theorem zip_snd : ∀ (ks : List Key) (ws : List V), ws.length = ks.length → (ks.zip ws).map (·.2) = ws
  | [], [], _ => rfl
  | [], _ :: _, h => by simp at h
  | _ :: ks, [], h => by simp at h
  | k :: ks, w :: ws, h => by
    rw [List.zip_cons_cons, List.map_cons, zip_snd ks ws (by simpa using h)]
theorem At.newD {B : Bar} {env : En} {σ : L2.St} {q : Addr} {o : HO} (ho : ∀ ps, o ≠ .tbl ps) (a : At G B env s σ H) (hq : H q = none) : At G (fun b => B b ∨ b = q) env s σ (L2.upd H q o) := by
  have b1 := a.bok.upd (o := o) hq
  refine ⟨(a.rel.new hq).ext0 (Ext.upd hq) a.good.dr (fun b h => .inl (a.bok.dr b h)), ⟨fun b h => ?_, fun b h => .inl (a.bok.dr b h)⟩, a.good.upd hq⟩
  rcases h with h | rfl
  · exact b1.there b h
  · exact ⟨o, upd_same, ho⟩
theorem pv_dic {f : C → Expr → Bool} {ks : List Key} {keys : List (Option Expr)} {values : List Expr} (hf : ∀ c e, f c e = true → PEv X G E P cl c e) (h : chkD f ks a keys values = true) (h15 : ks.length ≤ 15) : PEv X G E P cl (.dic ks a) (.Dict keys values pos) := by
  obtain ⟨h1, h2, h3, h4⟩ := chkD_ok (pos := pos) hf h
  have key : ∀ (B : Bar) (env : En) (s : Dr) (σ : L2.St) (H : Hp) (Q : VK) (d : Addr), At G B env s σ H → H d = none → fin (relD G B) G E H Q (ev P cl (.dic ks a) env s) →
      tPairs (trsD G E P cl ks a) σ (L2.upd H d (.dK [])) fun ps H2 => H2 d = some (.dK []) ∧ ∃ kvs : List (Key × V), ps = kvs.map (fun kv => (kV kv.1, kv.2)) ∧ kvs.length ≤ 15 ∧ Q (.ref d) (L2.upd H2 d (.dK (mergeK [] kvs))) := fun B env s σ H Q d at_ hd q => by
    simp only [ev] at q
    have atd := At.newD (o := .dK []) (fun _ z => nomatch z) at_ hd
    have n0 : ¬ isDr G d := fun z => by
      obtain ⟨o, e, _⟩ := at_.good.dr.there z
      rw [hd] at e; cases e
    cases hr : evL P cl a env s with
    | ok ds s1 =>
      rw [hr] at q
      simp only [R.bind_ok] at q
      split at q
      · rename_i hc
        refine dpairs (B := fun b => B b ∨ b = d) (env := env) (s := s) (R := fun ws H2 => H2 d = some (.dK []) ∧ (ws.length = ks.length → Q (.ref d) (L2.upd H2 d (.dK (ks.zip ws))))) h atd ?_ fun ws H2 hw hR => ⟨hR.1, ks.zip ws, rfl, by rw [List.length_zip]; omega, ?_⟩
        · rw [hr]
          intro ws H2 x2 g2 d2
          have ed : H2 d = some (.dK []) := x2 _ _ upd_same n0 (fun _ z => nomatch z)
          refine ⟨ed, fun hw => ?_⟩
          have xw : Ext G H (L2.upd H2 d (.dK (ks.zip ws))) := Ext.wr ((Ext.upd hd).trans x2) hd
          have gw : Good G s1 (L2.upd H2 d (.dK (ks.zip ws))) := g2.wrG n0 ed (.dK _)
          have lw := DenL.wrG (o := .dK (ks.zip ws)) (.inr rfl) ed (.dK _) ds d2
          refine q _ _ xw gw (.dct (at_.bok.none hd) upd_same (zip_fst ks ws hw) (by rw [zip_snd ks ws hw]; exact lw.mono fun b hb => .inl hb) (by unfold LIM; omega))
        · have e : mergeK [] (ks.zip ws) = ks.zip ws := by
            have := merge_app (ks.zip ws) [] (by rw [List.map_nil, List.nil_append, zip_fst ks ws hw]; exact hc.2.2)
            simpa using this
          rw [e]
          exact hR.2 hw
      · exact q.elim
    | exc c ds s1 =>
      rw [hr] at q
      refine dpairs (B := fun b => B b ∨ b = d) (env := env) (s := s) (R := fun ws H2 => False) h atd ?_ fun ws H2 hw hR => hR.elim
      rw [hr]
      exact fun cls dd H' x g ix => q cls dd H' ((Ext.upd hd).trans x) g ix
    | no => rw [hr] at q; exact q.elim
  cases ks with
  | nil =>
    cases keys <;> cases values <;> cases a <;> try (simp [chkD] at h; done)
    refine PE.imp pe_dnewK fun σ H Q ⟨B, env, s, at_, q⟩ => fun d hd => ?_
    simp only [ev, evL, R.bind_ok] at q
    have q : fin (relD G B) G E H Q (.ok (.dct [] []) s) := by simpa using q
    exact q _ _ (Ext.upd hd) (at_.good.upd hd) (.dct (kvs := []) (at_.bok.none hd) upd_same rfl .nil (Nat.zero_le _))
  | cons key0 ks0 =>
    have hne : keys ≠ [] := fun z => by rw [z] at h4; simp at h4
    exact PE.imp (pe_disp h1 h2 h3 hne (by omega)) fun σ H Q ⟨B, env, s, at_, q⟩ => fun d hd => key B env s σ H Q d at_ hd q
/-! ### a lambda that appends what comes -/
theorem sv_cApp {x : Str} {i j : Nat} {params : Arguments} {scope : Scope} {body : Expr} {lpos : Pos} {st : Stmt} (h0 : M = none ∨ j ≠ 0) (hx : XOk X G P SH cl E k) (hL : LOk X G P k x) (hgl : glB X.env.scope x = true) (hnm : nmOk x = true) (hs : LamX.lamSB X.env.scope scope = true) (hdef : defaultsOf params X.env = ([], []))
    (hbind : ∀ (q : Str) (cl : List (Str × Addr)) (pm cv ctv : Value), bindArgs (PySem.W.kla_fn "<lambda>" q params body scope cl pm cv ctv) ⟨[], []⟩ = pure [])
    (hb : ∀ (A : Around) (outer : List Env) (s : Shared) (H : Hp) (E' : XK) (f c' : Addr), Room (k + 2) (A.deeper (LamX.lamEnv X scope s.heap.objs.size f c')) → PE (LamX.lamCx X A outer s H E' scope f c') body (fun σ H Q => ∃ v, σ[i]? = some (some v) ∧ L2.tyV X.K "list" v H ∧ tR G E' (ev P cl a) σ H fun y H2 => rAppend v [y] H2 Q))
    (hst : ∀ {te : TE}, PE X (.Call (.Name x p) [.Lambda params body scope lpos] [] pos) te → PS X st (tAsg te (gName j))) : PSv X G M E P cl n (.cApp i j a) st := by
  obtain ⟨a0, e0, g, CS, pg, bg, sg, dV, kV, doc, pm, cdv, ct, oc, an, od, osl, Ng, h1, h2, h3, h4, h5, h6, h7, h8, h9, h10, h11, h12, h13, h14⟩ := hL.fn
  obtain ⟨c0, PT, t1, t2, t3, t4⟩ := hL.tab
  refine PS.imp (hst (LamX.pe_lamcall (k := k + 2) (t := fun E' σ H Q => ∃ v, σ[i]? = some (some v) ∧ L2.tyV X.K "list" v H ∧ tR G E' (ev P cl a) σ H fun y H2 => rAppend v [y] H2 Q) (gl_of hgl) h1 h2 h3 h4 h5 h6 h7 h8 (caught_gives h9 h10 h11 (nmOk_1 h12)) t1 t2 t3 t4 hL.room (LamX.lamS_by hs) hdef hbind hb (nmOk_1 hnm) (nmOk_1 h13) (nmOk_2 h13))) fun D σ H ⟨B0, H0, ad, z, s, at_, q⟩ => ?_
  simp only [evS] at q
  split at q
  · rename_i hi
    refine ⟨at_.good.tabs, fun H1 eN T1 => ?_⟩
    have x1 : Ext G H H1 := fun b o e _ t => eN b o e t
    have dr := at_.good.dr
    have g1 : Good G s H1 := ⟨⟨fun hl => eN _ _ (dr.d hl) fun _ z => (nomatch z), fun hl => eN _ _ (dr.l hl) fun _ z => (nomatch z), fun hl => eN _ _ (dr.c hl) fun _ z => (nomatch z), dr.ne, dr.eq⟩, T1⟩
    have a1 := at_.later x1 g1
    have st1 := at_.stp x1 g1
    obtain ⟨ds0, vs0, k1, k2, k3, k4, k5, _⟩ := a1.own i hi
    refine ⟨_, k2, .inl ⟨rfl, vs0, .of k3⟩, _, _, s, a1.masked (vars a), ?_⟩
    cases hr : ev P cl a (mask z (vars a)) s with
    | ok d s2 =>
      rw [hr] at q
      intro v H2 x2 g2 d2
      simp only at q
      split at q
      · rename_i ds hz
        split at q
        · rename_i hl
          have a2 := (a1.later x2 g2).keep d.imm (vars a)
          refine app_core a2 hz ((a1.later x2 g2).came id d2) hl fun vs _ a3 st => ?_
          refine q ad _ _ (a3.set (i := j) h0 .non) ?_
          exact (st1.trans ((a1.stp x2 g2).trans ((Stp.refl.less fun b hb => Bz_less keep_sub b hb).trans st))).less fun b hb => Bz_less (fun m hm => (List.mem_filter.mp hm).1) b hb
        · exact q.elim
      · exact q.elim
    | exc cc ds s2 =>
      rw [hr] at q
      intro cls d H2 x2 g2 ix
      obtain ⟨rfl, xf⟩ := ix
      refine ⟨h14 cc, fun b hb => ?_⟩
      have xu : Ext G H2 (L2.upd H2 b (ExT (.ref (G.ecl cc).1) d b)) := Ext.upd hb
      have a2 := a1.later x2 g2
      have a3 := a2.later xu (g2.upd hb)
      refine q ad _ _ (a3.set (i := j) h0 (.exc upd_same (xf.ext xu g2.dr))) ?_
      exact (st1.trans ((a1.stp x2 g2).trans (a2.stp xu (g2.upd hb)))).less fun b hb => Bz_less (fun m hm => (List.mem_filter.mp hm).1) b hb
    | no => rw [hr] at q; exact q.elim
  · exact q.elim
end
end Ah

/-! ## AhH -/
set_option Elab.async false
set_option linter.all false
set_option maxRecDepth 100000
set_option maxHeartbeats 4000000
/-! Ah: core against text: expressions. -/
namespace Ah
open PySem PySem.Spec PyProof.Rows L2
def Stat.lamS (t : Stat) (scope : Scope) : Stat := ⟨t.N, scope, fun _ => false, false, none⟩
def notSet : Expr → Bool | .Set _ _ _ => false | _ => true
theorem notSet_ok {e : Expr} {env : Env} (h : notSet e = true) (x : Value) : foldedSetIterable e env x = pure x := by
  cases e <;> first | rfl | cases h
def noArgs (a : Arguments) : Bool := match a with
  | ⟨[], [], none, [], [], none, []⟩ => true
  | _ => false
def chkL (f : C → Expr → Bool) : C → List Expr → Bool
  | .nil, [] => true
  | .cons a r, e :: es => noStar e && f a e && chkL f r es
  | _, _ => false
def chkKw (f : C → Expr → Bool) : C → List Keyword → Bool
  | .nil, [] => true
  | .cons a r, ⟨_, e, _⟩ :: es => f a e && chkKw f r es
  | _, _ => false
def isNilC : C → Bool | .nil => true | _ => false
def isInt0 : C → Bool | .int 0 => true | _ => false
def isTupE : Expr → Bool | .Tuple _ _ _ => true | _ => false
def chkO (f : C → Expr → Bool) : C → Option Expr → Bool
  | c, none => (match c with | .nop => true | _ => false)
  | c, some e => !isNop c && f c e
def chkI (t : Stat) (f : C → Expr → Bool) (tge : Expr) : C → Expr → Bool
  | .rng a b, .Call (.Name x _) [eb] [] _ => decide (x = "range") && glB t.sc "range" && isInt0 a && noStar eb && f b eb
  | .rng a b, .Call (.Name x _) [ea, eb] [] _ => decide (x = "range") && glB t.sc "range" && noStar ea && noStar eb && f a ea && f b eb
  | .enm a, .Call (.Name x _) [ea] [] _ => decide (x = "enumerate") && glB t.sc "enumerate" && isTupE tge && noStar ea && f a ea
  | .rng _ _, _ => false
  | .enm _, _ => false
  | c, e => f c e
def chkIfs (f : C → Expr → Bool) : C → List Expr → Bool
  | c, [] => (match c with | .nop => true | _ => false)
  | c, [e] => !isNop c && f c e
  | _, _ => false
def fnB (P : Prg) (SH : Shapes) (t : Stat) (x : Str) (f n : Nat) (ks : List Str) : Bool := match P.fns[f]? with
  | some fi => decide (fi.name = x) && decide (x ≠ Str.empty) && glB t.sc x && nmOk x && decide ((f, n, ks) ∈ SH) && (!fi.gd || t.gd)
  | none => false
def arB (P : Prg) (f n : Nat) : Bool := match P.fns[f]? with | some fi => decide (fi.ps.length = n) | none => false
def clB (P : Prg) (SH : Shapes) (t : Stat) (x : Str) (c n : Nat) (ks : List Str) : Bool := match P.cls[c]? with
  | some ci => decide (ci.name = x) && glB t.sc x && nmOk x && decide ((ci.init, n, ks) ∈ SH) && (match P.fns[ci.init]? with | some fi => !fi.ps.isEmpty | none => false)
  | none => false
def argsB (as : C) (es : List Expr) : Bool := es.all noStar && (!es.isEmpty || isNilC as)
def chk (P : Prg) (SH : Shapes) : Nat → Stat → C → Expr → Bool
  | 0, _, _, _ => false
  | n + 1, t, c, e => match c, e with
    | .nil, _ => true
    | .var i, .Name x _ => decide (t.N[i]? = some x) && visB t.sc x && nmOk x
    | .non, .Constant .none _ _ => true
    | .bl b, .Constant (.bool b') _ _ => decide (b = b')
    | .int b, .Constant (.int b') _ _ => decide (b = b')
    | .str b, .Constant (.str b') _ _ => decide (b = b') && sOk b
    | .gcon j, .Name x _ => decide ((P.gcs[j]?).map (·.1) = some x) && glB t.sc x && nmOk x
    | .bin op a b, .BinOp ea op' eb _ => decide (op = op') && chk P SH n t a ea && chk P SH n t b eb
    | .neg a, .UnaryOp .USub ea _ => chk P SH n t a ea
    | .not a, .UnaryOp .Not ea _ => chk P SH n t a ea
    | .and a b, .BoolOp .And (ea :: eb :: rest) pos => chk P SH n t a ea && (if rest.isEmpty then chk P SH n t b eb else chk P SH n t b (.BoolOp .And (eb :: rest) pos))
    | .or a b, .BoolOp .Or (ea :: eb :: rest) pos => chk P SH n t a ea && (if rest.isEmpty then chk P SH n t b eb else chk P SH n t b (.BoolOp .Or (eb :: rest) pos))
    | .ife c a b, .IfExp ec ea eb _ => chk P SH n t c ec && chk P SH n t a ea && chk P SH n t b eb
    | .cmp op a b, .Compare ea [op'] [eb] _ => decide (op = op') && !behindInMarks op eb && chk P SH n t a ea && chk P SH n t b eb
    | .isN a, .Compare ea [.Is] [.Constant .none _ _] _ => chk P SH n t a ea
    | .notN a, .Compare ea [.IsNot] [.Constant .none _ _] _ => chk P SH n t a ea
    | .chn op op2 a b c, .Compare ea [o1, o2] [eb, ec] _ => decide (op = o1) && decide (op2 = o2) && !behindInMarks op2 ec && chk P SH n t a ea && chk P SH n t b eb && chk P SH n t c ec
    | .call f as, .Call (.Name x _) es [] _ => fnB P SH t x f (lenC as) [] && arB P f (lenC as) && argsB as es && chkL (chk P SH n t) as es
    | .callK f ks as kas, .Call (.Name x _) es kws _ => fnB P SH t x f (lenC as) ks && decide (kwNames kws = ks) && decide (lenC kas = ks.length) && !(ks.isEmpty && arB P f (lenC as)) && kwAll kws && argsB as es && chkL (chk P SH n t) as es && chkKw (chk P SH n t) kas kws
    | .make c as, .Call (.Name x _) es [] _ => clB P SH t x c (lenC as + 1) [] && (match P.cls[c]? with | some ci => arB P ci.init (lenC as + 1) | none => false) && argsB as es && chkL (chk P SH n t) as es
    | .makeK c ks as kas, .Call (.Name x _) es kws _ => clB P SH t x c (lenC as + 1) ks && decide (kwNames kws = ks) && decide (lenC kas = ks.length) && kwAll kws && argsB as es && chkL (chk P SH n t) as es && chkKw (chk P SH n t) kas kws
    | .blt .lenSet a, .Call (.Name x _) [.Call (.Name y _) [ea] [] _] [] _ => decide (x = "len") && decide (y = "set") && glB t.sc "len" && glB t.sc "set" && noStar ea && chk P SH n t a ea
    | .blt b a, .Call (.Name x _) [ea] [] _ => (match bltNm b with | some (y, _) => decide (x = y) | none => false) && glB t.sc x && noStar ea && (!decide (b = .repr) || t.gd) && chk P SH n t a ea
    | .blt2 b a a2, .Call (.Name x _) [ea, eb] [] _ => decide (blt2Nm b = some x) && glB t.sc x && noStar ea && noStar eb && chk P SH n t a ea && chk P SH n t a2 eb
    | .isi a ts, .Call (.Name x _) [ea, .Tuple es _ _] [] _ => decide (x = "isinstance") && glB t.sc "isinstance" && tyNms P ts es && glNms t.sc es && decide (ts.length ≤ 1000) && noStar ea && chk P SH n t a ea
    | .isi a [ty], .Call (.Name x _) [ea, .Name y _] [] _ => decide (x = "isinstance") && glB t.sc "isinstance" && decide (tyNm P ty = some y) && glB t.sc y && nmOk y && noStar ea && chk P SH n t a ea
    | .att a f, .Attribute ea f' _ => decide (f = f') && attB ea && chk P SH n t a ea
    | .idx a b, .Subscript ea eb _ => !isSlice eb && chk P SH n t a ea && chk P SH n t b eb
    | .sli a lo hi, .Subscript ea (.Slice elo ehi none _) _ => chk P SH n t a ea && chkO (chk P SH n t) lo elo && chkO (chk P SH n t) hi ehi
    | .rev a, .Subscript ea (.Slice none none (some (.UnaryOp .USub (.Constant (.int 1) _ _) _)) _) _ => chk P SH n t a ea
    | .tup as, .Tuple es _ _ => chkL (chk P SH n t) as es
    | .lst as, .List es _ => chkL (chk P SH n t) as es
    | .comp own e tg it cond, .ListComp elt [⟨tge, ite, ifs, 0⟩] scope _ => blkC t.N t.sc scope own && tg.ixs.all (fun i => decide (i ∈ own.map (·.2))) && tgB (t.blk scope) tg tge && chkI t (chk P SH n t) tge it ite && chkIfs (chk P SH n (t.blk scope)) cond ifs && chk P SH n (t.blk scope) e elt && notSet ite
    | .comp2 own e tg it tg2 it2 cond, .ListComp elt [⟨tge, ite, [], 0⟩, ⟨tge2, ite2, ifs, 0⟩] scope _ => blkC t.N t.sc scope own && tg.ixs.all (fun i => decide (i ∈ own.map (·.2))) && tg2.ixs.all (fun i => decide (i ∈ own.map (·.2))) && tgB (t.blk scope) tg tge && tgB (t.blk scope) tg2 tge2 && chkI t (chk P SH n t) tge it ite && chkI (t.blk scope) (chk P SH n (t.blk scope)) tge2 it2 ite2 && chkIfs (chk P SH n (t.blk scope)) cond ifs && chk P SH n (t.blk scope) e elt && notSet ite && notSet ite2
    | .caught a, .Call (.Name x _) [.Lambda params body scope _] [] _ => decide (t.lam = some x) && glB t.sc x && nmOk x && LamX.lamSB t.sc scope && noArgs params && chk P SH n (t.lamS scope) a body
    | .dgi a x, .Subscript ea (.Constant (.str x') _ _) _ => decide (x = x') && chk P SH n t a ea
    | .dne a, .Compare (.Subscript ea (.Constant (.str x) _ _) _) [.NotEq] [.List [] _] _ => decide (x = "large") && chk P SH n t a ea
    | .dpop a, .Call (.Attribute (.Subscript ea (.Constant (.str x) _ _) _) m p2) [.Constant (.int i) _ _] [] cpos => decide (m = "pop") && decide (x = "large") && decide (i = 0) && (p2.endLine == cpos.line) && chk P SH n t a ea
    | .dic ks as, .Dict keys values _ => decide (ks.length ≤ 15) && chkD (chk P SH n t) ks as keys values
    | _, _ => false
end Ah

/-! ## AhE -/
set_option Elab.async false
set_option linter.all false
set_option maxRecDepth 100000
set_option maxHeartbeats 8000000
/-! Ah: what is checked is kept: expressions. -/
namespace Ah
open PySem PySem.Spec PyProof.Rows L2
structure KX (X : Cx) (G : Ah.G) (P : Prg) (SH : Shapes) (cl : Cl) (E : XK) (k : Nat) (t : Stat) : Prop where
  ok : XOk X G P SH cl E k
  xs : XS X t
  gd : t.gd = true → X.A.guards = some []
  lam : ∀ x, t.lam = some x → LOk X G P k x
abbrev Bth (X : Cx) (G : Ah.G) (E : XK) (P : Prg) (cl : Cl) (c : C) (e : Expr) : Prop := PEv X G E P cl c e ∧ PTv X G E P cl c e
section
variable {X : Cx} {G : Ah.G} {E : XK} {P : Prg} {SH : Shapes} {cl : Cl} {k n : Nat} {t : Stat} {c : C} {e : Expr} {es : List Expr} {f : C → Expr → Bool} {kws : List Keyword}
theorem KX.blk (h : KX X G P SH cl E k t) (s : Shared) (H : Hp) (scope : Scope) (C : Addr) (cls : List (Str × Addr)) (fp : List Addr) : KX (X.blk s H scope (compEnvC scope cls C X.env) fp) G P SH cl E0 k (t.blk scope) :=
  ⟨h.ok.blk .., h.xs.blk .., h.gd, fun x z => nomatch z⟩
theorem KX.lamb (h : KX X G P SH cl E k t) {A : Around} {outer : List Env} {s : Shared} {H : Hp} {E' : XK} {scope : Scope} {f c' : Addr} (hr : Room (k + 2) (A.deeper (LamX.lamEnv X scope s.heap.objs.size f c'))) : KX (LamX.lamCx X A outer s H E' scope f c') G P SH cl E' k (t.lamS scope) :=
  ⟨⟨h.ok.wd, h.ok.nd, rfl, hr, takes_of rfl rfl rfl rfl⟩, ⟨h.xs.n, rfl, fun x z => (nomatch z)⟩, fun z => (nomatch z), fun x z => (nomatch z)⟩
theorem bth (hK : G.K = X.K) (h : PEv X G E P cl c e) (he : ∀ whole, isTrue e X.env whole = (do let v ← whole; standAt e.pos; holding [v] (truthy v))) : Bth X G E P cl c e := ⟨h, pt_of hK h he⟩
theorem bth_no : Bth X G E P cl .nil e := ⟨⟨fun pins s σ H Q I ⟨_, _, _, _, q⟩ => q.elim⟩, ⟨fun pins s σ H Q I ⟨_, _, _, _, q⟩ => q.elim⟩⟩
theorem chkL_ok (hf : ∀ c e, f c e = true → Bth X G E P cl c e) : ∀ {c : C} {es : List Expr}, chkL f c es = true → PAv X G E P cl c es
  | .nil, [], _ => pav_nil
  | .cons a r, e :: es, h => by
    simp only [chkL, Bool.and_eq_true] at h
    exact pav_cons h.1.1 (hf _ _ h.1.2).1 (chkL_ok hf h.2)
theorem chkKw_ok (hf : ∀ c e, f c e = true → Bth X G E P cl c e) : ∀ {c : C} {es : List Keyword}, chkKw f c es = true → PKv X G E P cl c es
  | .nil, [], _ => pkv_nil
  | .cons a r, ⟨_, e, _⟩ :: es, h => by
    simp only [chkKw, Bool.and_eq_true] at h
    exact pkv_cons (hf _ _ h.1).1 (chkKw_ok hf h.2)
theorem chkO_ok (hf : ∀ c e, f c e = true → Bth X G E P cl c e) {c : C} {e : Option Expr} (h : chkO f c e = true) : POv X G E P cl c e := by
  cases e with
  | none =>
    cases c <;> first | exact pov_none | cases h
  | some e =>
    simp only [chkO, Bool.and_eq_true, Bool.not_eq_true'] at h
    exact pov_some h.1 (hf _ _ h.2).1
theorem isInt0_ok {c : C} (h : isInt0 c = true) : c = .int 0 := by
  unfold isInt0 at h
  split at h
  · rfl
  · cases h
theorem pw_bool {op : BoolOp} {l : List Expr} {pos : Pos} {tt : TT} (h : PT X (.BoolOp op l pos) tt) : PW X (.BoolOp op l pos) tt := ⟨fun w pins s σ H Q I q => h.run pins s σ H Q I q⟩
theorem chkI_ok {tge : Expr} (hx : KX X G P SH cl E k t) (hf : ∀ c e, f c e = true → Bth X G E P cl c e) {c : C} {e : Expr} (h : chkI t f tge c e = true) : PI X tge e (tRIb (isRng c) G E (evI P cl c)) := by
  unfold chkI at h
  split at h
  · simp only [Bool.and_eq_true, decide_eq_true_eq] at h
    obtain ⟨⟨⟨⟨rfl, h1⟩, h2⟩, h3⟩, h4⟩ := h
    cases isInt0_ok h2
    exact piv_rng1 hx.ok (by rw [hx.xs.sc]; exact h1) h3 (hf _ _ h4).1
  · simp only [Bool.and_eq_true, decide_eq_true_eq] at h
    obtain ⟨⟨⟨⟨⟨rfl, h1⟩, h2⟩, h3⟩, h4⟩, h5⟩ := h
    exact piv_rng2 hx.ok (by rw [hx.xs.sc]; exact h1) h2 h3 (hf _ _ h4).1 (hf _ _ h5).1
  · simp only [Bool.and_eq_true, decide_eq_true_eq] at h
    obtain ⟨⟨⟨⟨rfl, h1⟩, h2⟩, h3⟩, h4⟩ := h
    cases tge <;> try (cases h2; done)
    exact pi_of (piv_enm hx.ok (by rw [hx.xs.sc]; exact h1) h3 (hf _ _ h4).1)
  · cases h
  · cases h
  · rename_i c0 e0 w1 w2 w3 w4 w5
    have hc : isRng c = false := by
      cases c <;> first | rfl | exact (w1 _ _ rfl).elim
    rw [hc]
    exact pi_of (piv_seq hx.ok.K (hf _ _ h).1)
theorem chkIfs_ok {Y : Cx} (hf : ∀ c e, f c e = true → Bth Y G E0 P cl c e) {c : C} {es : List Expr} (h : chkIfs f c es = true) : PTs Y es (tRB G E0 (condR P cl c)) := by
  unfold chkIfs at h
  split at h
  · cases c <;> first | exact pts_nop | cases h
  · simp only [Bool.and_eq_true, Bool.not_eq_true'] at h
    exact pts_cond h.1 (hf _ _ h.2).2
  · cases h
theorem fnB_ok {x : Str} {ff m : Nat} {ks : List Str} (hx : KX X G P SH cl E k t) (h : fnB P SH t x ff m ks = true) : ∃ fi, P.fns[ff]? = some fi ∧ fi.name = x ∧ fi.name ≠ Str.empty ∧ glB X.env.scope x = true ∧ nmOk x = true ∧ (ff, m, ks) ∈ SH ∧ (fi.gd = true → X.A.guards = some []) := by
  unfold fnB at h
  split at h
  · rename_i fi hfi
    simp only [Bool.and_eq_true, Bool.or_eq_true, Bool.not_eq_true', decide_eq_true_eq] at h
    obtain ⟨⟨⟨⟨⟨h1, h2⟩, h3⟩, h4⟩, h5⟩, h6⟩ := h
    exact ⟨fi, hfi, h1, by rw [h1]; exact h2, by rw [hx.xs.sc]; exact h3, h4, h5, fun z => h6.elim (fun w => by rw [z] at w; cases w) hx.gd⟩
  · cases h
theorem arB_ok {ff m : Nat} {fi : FnI} (hfi : P.fns[ff]? = some fi) : arB P ff m = decide (fi.ps.length = m) := by unfold arB; rw [hfi]
theorem clB_ok {x : Str} {cc m : Nat} {ks : List Str} (hx : KX X G P SH cl E k t) (h : clB P SH t x cc m ks = true) : ∃ ci fi, P.cls[cc]? = some ci ∧ P.fns[ci.init]? = some fi ∧ ci.name = x ∧ glB X.env.scope x = true ∧ nmOk x = true ∧ (ci.init, m, ks) ∈ SH ∧ fi.ps ≠ [] := by
  unfold clB at h
  split at h
  · rename_i ci hci
    simp only [Bool.and_eq_true, decide_eq_true_eq] at h
    obtain ⟨⟨⟨⟨h1, h3⟩, h4⟩, h5⟩, h6⟩ := h
    split at h6
    · rename_i fi hfi
      exact ⟨ci, fi, hci, hfi, h1, by rw [hx.xs.sc]; exact h3, h4, h5, fun z => by rw [z] at h6; cases h6⟩
    · cases h6
  · cases h
theorem argsB_ok {as : C} (h : argsB as es = true) : es.all noStar = true ∧ (es = [] → as = .nil) := by
  unfold argsB at h
  simp only [Bool.and_eq_true, Bool.or_eq_true, Bool.not_eq_true'] at h
  refine ⟨h.1, fun z => ?_⟩
  subst z
  rcases h.2 with w | w
  · cases w
  · cases as <;> first | rfl | cases w
theorem chk_ok : ∀ (n : Nat) {X : Cx} {E : XK} {t : Stat} {c : C} {e : Expr}, KX X G P SH cl E k t → chk P SH n t c e = true → Bth X G E P cl c e
  | 0, _, _, _, _, _, _, h => by cases h
  | n + 1, X, E, t, c, e, hx, h => by
    have ih : ∀ c e, chk P SH n t c e = true → Bth X G E P cl c e := fun c e => chk_ok n hx
    have hK := hx.ok.K
    have gl : ∀ {x}, glB t.sc x = true → glB X.env.scope x = true := fun w => by rw [hx.xs.sc]; exact w
    unfold chk at h
    split at h
    · exact bth_no
    · -- var
      simp only [Bool.and_eq_true, decide_eq_true_eq] at h
      exact bth hK (pv_var (by rw [hx.xs.n]; exact h.1.1) (by rw [hx.xs.sc]; exact h.1.2) h.2) fun _ => rfl
    · exact bth hK pv_non fun _ => rfl
    · cases of_decide_eq_true h
      exact bth hK pv_bl fun _ => rfl
    · cases of_decide_eq_true h
      exact bth hK pv_int fun _ => rfl
    · simp only [Bool.and_eq_true, decide_eq_true_eq] at h
      obtain ⟨rfl, h2⟩ := h
      exact bth hK (pv_str h2) fun _ => rfl
    · simp only [Bool.and_eq_true, decide_eq_true_eq] at h
      obtain ⟨⟨h1, h2⟩, h3⟩ := h
      obtain ⟨⟨y, d⟩, h4, h5⟩ := Option.map_eq_some_iff.mp h1
      cases h5
      exact bth hK (pv_gcon hx.ok h4 (gl h2) h3) fun _ => rfl
    · simp only [Bool.and_eq_true, decide_eq_true_eq] at h
      obtain ⟨⟨rfl, h2⟩, h3⟩ := h
      exact bth hK (pv_bin hK (ih _ _ h2).1 (ih _ _ h3).1) fun _ => rfl
    · exact bth hK (pv_neg (ih _ _ h).1) fun _ => rfl
    · exact ⟨pv_not hK (ih _ _ h).1, ptv_not (ih _ _ h).2⟩
    · -- and
      simp only [Bool.and_eq_true] at h
      obtain ⟨h1, h2⟩ := h
      rename_i a b ea eb rest pos
      have hb : PEv X G E P cl b (.BoolOp .And (eb :: rest) pos) ∧ PWv X G E P cl b (.BoolOp .And (eb :: rest) pos) := by
        cases rest with
        | nil => exact ⟨pv_one (ih _ _ h2).1, pw_and1 (ih _ _ h2).2⟩
        | cons r0 rs => exact ⟨(ih _ _ h2).1, pw_bool (ih _ _ h2).2⟩
      exact ⟨pv_and hK (ih _ _ h1).1 hb.1, (pwv_and (ih _ _ h1).2 hb.2).pt⟩
    · -- or
      simp only [Bool.and_eq_true] at h
      obtain ⟨h1, h2⟩ := h
      rename_i a b ea eb rest pos
      have hb : PEv X G E P cl b (.BoolOp .Or (eb :: rest) pos) ∧ PWv X G E P cl b (.BoolOp .Or (eb :: rest) pos) := by
        cases rest with
        | nil => exact ⟨pv_one (ih _ _ h2).1, pw_or1 (ih _ _ h2).2⟩
        | cons r0 rs => exact ⟨(ih _ _ h2).1, pw_bool (ih _ _ h2).2⟩
      exact ⟨pv_or hK (ih _ _ h1).1 hb.1, (pwv_or (ih _ _ h1).2 hb.2).pt⟩
    · -- if else
      simp only [Bool.and_eq_true] at h
      obtain ⟨⟨h1, h2⟩, h3⟩ := h
      exact ⟨pv_ife (ih _ _ h1).2 (ih _ _ h2).1 (ih _ _ h3).1, ptv_ife (ih _ _ h1).2 (ih _ _ h2).2 (ih _ _ h3).2⟩
    · -- a comparison
      simp only [Bool.and_eq_true, Bool.not_eq_true', decide_eq_true_eq] at h
      obtain ⟨⟨⟨rfl, h1⟩, h2⟩, h3⟩ := h
      exact ⟨pv_cmp hK hx.ok.hu h1 (ins_cmp hx.ok _) (ih _ _ h2).1 (ih _ _ h3).1, ptv_cmp hK hx.ok.hu h1 (ins_cmp hx.ok _) (ih _ _ h2).1 (ih _ _ h3).1⟩
    · exact ⟨pv_isN (ih _ _ h).1, ptv_isN (ih _ _ h).1⟩
    · exact ⟨pv_notN (ih _ _ h).1, ptv_notN (ih _ _ h).1⟩
    · simp only [Bool.and_eq_true, Bool.not_eq_true', decide_eq_true_eq] at h
      obtain ⟨⟨⟨⟨⟨rfl, rfl⟩, h1⟩, h2⟩, h3⟩, h4⟩ := h
      exact ⟨pv_chn hK hx.ok.hu h1 (ih _ _ h2).1 (ih _ _ h3).1 (ih _ _ h4).1, ptv_chn hK hx.ok.hu h1 (ih _ _ h2).1 (ih _ _ h3).1 (ih _ _ h4).1⟩
    · -- calls
      simp only [Bool.and_eq_true] at h
      obtain ⟨⟨⟨h1, h2⟩, h3⟩, h4⟩ := h
      obtain ⟨fi, g1, g2, g3, g4, g5, g6, g7⟩ := fnB_ok hx h1
      obtain ⟨a1, a2⟩ := argsB_ok h3
      rw [arB_ok g1, decide_eq_true_eq] at h2
      exact bth hK (pv_call hx.ok g7 g1 g3 g2 g4 g5 g6 h2 a1 a2 (chkL_ok ih h4)) fun _ => rfl
    · simp only [Bool.and_eq_true, Bool.not_eq_true', decide_eq_true_eq] at h
      obtain ⟨⟨⟨⟨⟨⟨⟨h1, h2⟩, h3⟩, h4⟩, h5⟩, h6⟩, h7⟩, h8⟩ := h
      obtain ⟨fi, g1, g2, g3, g4, g5, g6, g7⟩ := fnB_ok hx h1
      obtain ⟨a1, a2⟩ := argsB_ok h6
      refine bth hK (pv_callK hx.ok g7 g1 g3 g2 g4 g5 h2 g6 h3 (fun w => ?_) a1 h5 a2 (chkL_ok ih h7) (chkKw_ok ih h8)) fun _ => rfl
      obtain ⟨w1, w2⟩ := w
      rw [w1, arB_ok g1, w2] at h4
      simp at h4
    · simp only [Bool.and_eq_true] at h
      obtain ⟨⟨⟨h1, h2⟩, h3⟩, h4⟩ := h
      obtain ⟨ci, fi, g1, g2, g3, g4, g5, g6, g7⟩ := clB_ok hx h1
      obtain ⟨a1, a2⟩ := argsB_ok h3
      rw [g1] at h2
      simp only [arB_ok g2, decide_eq_true_eq] at h2
      exact bth hK (pv_make hx.ok g1 g2 g3 g4 g5 g6 h2 a1 a2 (chkL_ok ih h4)) fun _ => rfl
    · simp only [Bool.and_eq_true, decide_eq_true_eq] at h
      obtain ⟨⟨⟨⟨⟨⟨h1, h2⟩, h3⟩, h5⟩, h6⟩, h7⟩, h8⟩ := h
      obtain ⟨ci, fi, g1, g2, g3, g4, g5, g6, g7⟩ := clB_ok hx h1
      obtain ⟨a1, a2⟩ := argsB_ok h6
      exact bth hK (pv_makeK hx.ok g1 g2 g3 g4 g5 g7 h2 g6 h3 a1 h5 a2 (chkL_ok ih h7) (chkKw_ok ih h8)) fun _ => rfl
    · -- built-ins
      simp only [Bool.and_eq_true, decide_eq_true_eq] at h
      obtain ⟨⟨⟨⟨⟨rfl, rfl⟩, h1⟩, h2⟩, h3⟩, h4⟩ := h
      exact bth hK (pv_lenSet hx.ok (gl h1) (gl h2) h3 (ih _ _ h4).1) fun _ => rfl
    · simp only [Bool.and_eq_true, Bool.or_eq_true, Bool.not_eq_true', decide_eq_false_iff_not] at h
      obtain ⟨⟨⟨⟨h1, h2⟩, h3⟩, h4⟩, h5⟩ := h
      split at h1
      · rename_i y ff hb
        cases of_decide_eq_true h1
        exact bth hK (pv_blt hx.ok (fun w => h4.elim (fun z => absurd w z) hx.gd) hb (gl h2) h3 (ih _ _ h5).1) fun _ => rfl
      · cases h1
    · simp only [Bool.and_eq_true, decide_eq_true_eq] at h
      obtain ⟨⟨⟨⟨⟨h1, h2⟩, h3⟩, h4⟩, h5⟩, h6⟩ := h
      exact bth hK (pv_blt2 hx.ok h1 (gl h2) h3 h4 (ih _ _ h5).1 (ih _ _ h6).1) fun _ => rfl
    · simp only [Bool.and_eq_true, decide_eq_true_eq] at h
      obtain ⟨⟨⟨⟨⟨⟨rfl, h1⟩, h2⟩, h3⟩, h4⟩, h5⟩, h6⟩ := h
      exact bth hK (pv_isiT hx.ok (gl h1) h2 (by rw [hx.xs.sc]; exact h3) h4 h5 (ih _ _ h6).1) fun _ => rfl
    · simp only [Bool.and_eq_true, decide_eq_true_eq] at h
      obtain ⟨⟨⟨⟨⟨⟨rfl, h1⟩, h2⟩, h3⟩, h4⟩, h5⟩, h6⟩ := h
      exact bth hK (pv_isi1 hx.ok (gl h1) h2 (gl h3) h4 h5 (ih _ _ h6).1) fun _ => rfl
    · simp only [Bool.and_eq_true, decide_eq_true_eq] at h
      obtain ⟨⟨rfl, h1⟩, h2⟩ := h
      exact bth hK (pv_att hx.ok h1 (ih _ _ h2).1) fun _ => rfl
    · simp only [Bool.and_eq_true, Bool.not_eq_true'] at h
      obtain ⟨⟨h1, h2⟩, h3⟩ := h
      exact bth hK (pv_idx hK h1 (ih _ _ h2).1 (ih _ _ h3).1) fun _ => rfl
    · simp only [Bool.and_eq_true] at h
      obtain ⟨⟨h1, h2⟩, h3⟩ := h
      exact bth hK (pv_sli hK (ih _ _ h1).1 (chkO_ok ih h2) (chkO_ok ih h3)) fun _ => rfl
    · exact bth hK (pv_rev (ih _ _ h).1) fun _ => rfl
    · exact bth hK (pv_tup (chkL_ok ih h)) fun _ => rfl
    · exact bth hK (pv_lst (chkL_ok ih h)) fun _ => rfl
    · -- comprehensions
      simp only [Bool.and_eq_true] at h
      obtain ⟨⟨⟨⟨⟨⟨h1, h2⟩, h3⟩, h4⟩, h5⟩, h6⟩, h7⟩ := h
      refine bth hK (pv_comp hx.ok (pi_b (chkI_ok hx ih h4)) (by rw [hx.xs.n, hx.xs.sc]; exact h1) (fun i hi => of_decide_eq_true (List.all_eq_true.mp h2 i hi)) (fun s H C cls fp => ?_) (fun s H C cls fp => ?_) (fun s H C cls fp => ?_) (notSet_ok h7)) fun _ => rfl
      · have := hx.blk (E := E) s H; exact pg_tg (hx.blk s H _ C cls fp).xs (hx.blk s H _ C cls fp).ok.nd (hx.blk s H _ C cls fp).ok.calm h3
      · exact chkIfs_ok (fun c e w => chk_ok n (hx.blk s H _ C cls fp) w) h5
      · exact (chk_ok n (hx.blk s H _ C cls fp) h6).1
    · simp only [Bool.and_eq_true] at h
      obtain ⟨⟨⟨⟨⟨⟨⟨⟨⟨⟨h1, h2⟩, h2b⟩, h3⟩, h3b⟩, h4⟩, h4b⟩, h5⟩, h6⟩, h7⟩, h7b⟩ := h
      refine bth hK (pv_comp2 hx.ok (pi_b (chkI_ok hx ih h4)) (by rw [hx.xs.n, hx.xs.sc]; exact h1) (fun i hi => of_decide_eq_true (List.all_eq_true.mp h2 i hi)) (fun i hi => of_decide_eq_true (List.all_eq_true.mp h2b i hi)) (fun s H C cls fp => ?_) (fun s H C cls fp => ?_) (fun s H C cls fp => ?_) (fun s H C cls fp => ?_) (fun s H C cls fp => ?_) (notSet_ok h7) (fun env => notSet_ok h7b)) fun _ => rfl
      · exact pg_tg (hx.blk s H _ C cls fp).xs (hx.blk s H _ C cls fp).ok.nd (hx.blk s H _ C cls fp).ok.calm h3
      · exact pi_b (chkI_ok (hx.blk s H _ C cls fp) (fun c e w => chk_ok n (hx.blk s H _ C cls fp) w) h4b)
      · exact pg_tg (hx.blk s H _ C cls fp).xs (hx.blk s H _ C cls fp).ok.nd (hx.blk s H _ C cls fp).ok.calm h3b
      · exact chkIfs_ok (fun c e w => chk_ok n (hx.blk s H _ C cls fp) w) h5
      · exact (chk_ok n (hx.blk s H _ C cls fp) h6).1
    · -- a lambda handed over
      simp only [Bool.and_eq_true, decide_eq_true_eq] at h
      obtain ⟨⟨⟨⟨⟨h1, h2⟩, h3⟩, h4⟩, h5⟩, h6⟩ := h
      rename_i params body scope p1 p2
      have hp : params = ⟨[], [], none, [], [], none, []⟩ := by
        unfold noArgs at h5
        split at h5
        · rfl
        · cases h5
      subst hp
      exact bth hK (pv_caught hx.ok (hx.lam _ h1) (gl h2) h3 (by rw [hx.xs.sc]; exact h4) rfl (fun _ _ _ _ _ => rfl) fun A outer s H E' f c' hr => (chk_ok n (hx.lamb hr) h6).1) fun _ => rfl
    · -- the draw
      simp only [Bool.and_eq_true, decide_eq_true_eq] at h
      obtain ⟨rfl, h2⟩ := h
      exact bth hK (pv_dgi hx.ok (ih _ _ h2).1) fun _ => rfl
    · simp only [Bool.and_eq_true, decide_eq_true_eq] at h
      obtain ⟨rfl, h2⟩ := h
      exact ⟨pv_dne hx.ok (ih _ _ h2).1, ptv_dne hK hx.ok (ih _ _ h2).1⟩
    · simp only [Bool.and_eq_true, decide_eq_true_eq] at h
      obtain ⟨⟨⟨⟨rfl, rfl⟩, rfl⟩, h1⟩, h2⟩ := h
      exact bth hK (pv_dpop hx.ok h1 (ih _ _ h2).1) fun _ => rfl
    · simp only [Bool.and_eq_true, decide_eq_true_eq] at h
      exact bth hK (pv_dic (fun c e w => (ih c e w).1) h.2 h.1) fun _ => rfl
    · cases h
end
end Ah

/-! ## AhZ -/
set_option Elab.async false
set_option linter.all false
set_option maxRecDepth 100000
set_option maxHeartbeats 8000000
/-! Ah: core against text: statements. -/
namespace Ah
open PySem PySem.Spec PyProof.Rows L2
def notComp : Expr → Bool | .ListComp _ _ _ _ => false | .SetComp _ _ _ _ => false | .DictComp _ _ _ _ _ => false | _ => true
theorem swaps_no {e : Expr} {o : Option Expr} {l : Nat} {env : Env} (h : notComp e = true) : swapsWith e o l env = pure false := by
  cases e <;> first | rfl | cases h
theorem swaps_nm {x : Str} {px : Pos} {e : Expr} {env : Env} : swappedStores [.Name x px] e env = pure none := by
  cases e <;> rfl
theorem swaps_tp {ts : List Expr} {k : Nat} {p : Pos} {e : Expr} {env : Env} (h : isTupE e = false) : swappedStores [.Tuple ts k p] e env = pure none := by
  cases e <;> first | rfl | cases h
def isFnK (sc : Scope) : Bool := (if sc.kind.isAnnotationScope then ScopeKind.function else sc.kind) == .function
def swB (sc : Scope) (x : Str) (px pos : Pos) (scope : Scope) : Bool := isFnK sc && sc.names.lookup x == some .local && px.line == pos.line && !(scope.names.any fun (n, k) => n == x && (k == .local || k == .cell))
theorem swaps_lc {elt : Expr} {gs : List Comprehension} {scope : Scope} {pos px : Pos} {x : Str} {l : Nat} {env : Env} : swapsWith (.ListComp elt gs scope pos) (some (.Name x px)) l env = pure (swB env.scope x px pos scope) := rfl
def parB (t : Stat) (x y : Str) (px py : Pos) (a b : Expr) : Bool := isFnK t.sc && noStar a && noStar b && (t.sc.names.lookup x == some .local) && (t.sc.names.lookup y == some .local) && decide (py.line = px.line) && decide (x ≠ y) && !(foldedForSure 8 a && foldedForSure 8 b) && !(constantsAlone 8 a && constantsAlone 8 b)
theorem par_ok {t : Stat} {x y : Str} {px py pt pt2 : Pos} {a b : Expr} {k1 k2 : Nat} {env : Env} (hs : env.scope = t.sc) (h : parB t x y px py a b = true) : swappedStores [.Tuple [.Name x px, .Name y py] k1 pt] (.Tuple [a, b] k2 pt2) env = pure (some [x, y]) := by
  unfold parB at h
  simp only [Bool.and_eq_true, Bool.not_eq_true', decide_eq_true_eq] at h
  obtain ⟨⟨⟨⟨⟨⟨⟨⟨h1, h2⟩, h3⟩, h4⟩, h5⟩, h6⟩, h7⟩, h8⟩, h9⟩ := h
  have b1 : (env.blockKind != .function) = false := by
    show (!((if env.scope.kind.isAnnotationScope then ScopeKind.function else env.scope.kind) == .function)) = false
    rw [hs]
    unfold isFnK at h1
    rw [h1]; rfl
  have kx : (env.kindOf x == some NameKind.local) = true := by show (env.scope.names.lookup x == some NameKind.local) = true; rw [hs]; exact h4
  have ky : (env.kindOf y == some NameKind.local) = true := by show (env.scope.names.lookup y == some NameKind.local) = true; rw [hs]; exact h5
  have ne : (x == y) = false := beq_eq_false_iff_ne.mpr h7
  have ney : (y == x) = false := beq_eq_false_iff_ne.mpr (Ne.symm h7)
  unfold swappedStores
  have e1 : (px.line == ((([Expr.Name x px, Expr.Name y py] : List Expr).head?.map (·.pos.line)).getD 0)) = true := by show (px.line == px.line) = true; exact beq_self_eq_true _
  have e2 : (py.line == ((([Expr.Name x px, Expr.Name y py] : List Expr).head?.map (·.pos.line)).getD 0)) = true := by show (py.line == px.line) = true; rw [h6]; exact beq_self_eq_true _
  have ed : ([x, y] : List Str).eraseDups.length = 2 := by simp [List.eraseDups_cons, ne, ney]
  have l0 : (!((0 + 1 + 1 : Nat) == 2 || (0 + 1 + 1 : Nat) == 3) || (0 + 1 + 1 : Nat) != 0 + 1 + 1) = false := rfl
  have l1 : ((0 + 1 + 1 : Nat) != 0 + 1 + 1) = false := rfl
  have a8 : ([a, b].all (foldedForSure 8)) = false := by simp only [List.all_cons, List.all_nil, Bool.and_true]; exact h8
  have a9 : ([a, b].all (constantsAlone 8)) = false := by simp only [List.all_cons, List.all_nil, Bool.and_true]; exact h9
  simp only [pure_bind, List.length_cons, List.length_nil, b1, Bool.or_false, Bool.false_eq_true, if_false, List.filterMap_cons, List.filterMap_nil, kx, ky, e1, e2, Bool.and_self, if_true, l0, l1, ed, a8, a9, Bool.or_self]
  clear b1 kx ky e1 e2 ed a8 a9 h8 h9
  cases a <;> first | (cases h2; done) | (cases b <;> first | rfl | cases h3)
structure YX (X : Cx) (G : Ah.G) (P : Prg) (SH : Shapes) (cl : Cl) (E : XK) (k : Nat) (t : Stat) (M : Me) (mc : Option Nat) : Prop where
  kx : KX X G P SH cl E k t
  po : PassesOwn (model X.prog X.w) X.A X.env X.xe
  me : M.map (fun m => m.2.2) = mc
def nz (mc : Option Nat) (is : List Nat) : Bool := mc.isNone || is.all (fun i => decide (i ≠ 0))
def isNmE : Expr → Bool | .Name _ _ => true | _ => false
/-- a new list's text -/
def frsh : C → Bool
  | .lst _ => true | .blt .list _ => true | .bin .Add _ _ => true | .comp _ _ _ _ _ => true | _ => false
def selfB (t : Stat) : Expr → Option Str
  | .Name x _ => if t.N[0]? = some x ∧ visB t.sc x = true ∧ nmOk x = true then some x else none
  | _ => none
def chkS (P : Prg) (SH : Shapes) (mc : Option Nat) : Nat → Stat → Sx → Stmt → Bool
  | 0, _, _, _ => false
  | n + 1, t, c, s => match c, s with
    | .no, _ => true
    | .pass, .Pass _ => true
    | .pass, .Expr (.Constant (.str _) _ _) _ => true
    | .brk, .Break _ => true
    | .cnt, .Continue _ => true
    | .ret a, .Return (some e) _ => chk P SH n t a e
    | .retN, .Return none _ => true
    | .expr a, .Expr e _ => notComp e && chk P SH n t a e
    | .ife a s1 s2, .If e b1 b2 _ => chk P SH n t a e && chkB (chkS P SH mc n t) s1 b1 && chkB (chkS P SH mc n t) s2 b2
    | .rais cn, .Raise (some (.Call (.Name x _) [.Constant (.str _) _ _] [] _)) none _ => (match P.ecs[cn]? with | some ci => decide (ci.name = x) && ci.flds.isEmpty | none => false) && glB t.sc x && nmOk x
    | .asg (.nm i) (.comp own e tg it cond), .Assign [.Name x px] (.ListComp elt [⟨tge, ite, ifs, 0⟩] scope pos) _ => tgB t (.nm i) (.Name x px) && nz mc [i] && chk P SH n t (.comp own e tg it cond) (.ListComp elt [⟨tge, ite, ifs, 0⟩] scope pos) &&
        (!swB t.sc x px pos scope || (decide (t.sc.names.lookup x = some .local) && chkC P SH n t (.comp own e tg it cond) (.ListComp elt [⟨tge, ite, ifs, 0⟩] scope pos)))
    | .asg tg a, .Assign [tge] e _ => tgB t tg tge && nz mc tg.ixs && notComp e && (isNmE tge || !isTupE e) && chk P SH n t a e
    | .own i a, .Assign [.Name x px] e _ => tgB t (.nm i) (.Name x px) && nz mc [i] && frsh a && notComp e && chk P SH n t a e
    | .par i j oi oj a b, .Assign [.Tuple [.Name x px, .Name y py] _ _] (.Tuple [ea, eb] _ _) _ => tgB t (.nm i) (.Name x px) && tgB t (.nm j) (.Name y py) && nz mc [i, j] && decide (i ≠ j) && parB t x y px py ea eb && (decide (oi = oj)) && (!oi || (frsh a && frsh b)) && chk P SH n t a ea && chk P SH n t b eb
    | .for_ tg it b, .For tge ite body [] _ => tgB t tg tge && nz mc tg.ixs && notSet ite && chkI t (chk P SH n t) tge it ite && chkB (chkS P SH mc n t) b body
    | .whl a b, .While e body [] _ => chk P SH n t a e && chkB (chkS P SH mc n t) b body
    | .app i a, .Expr (.Call (.Attribute (.Name x _) m p2) [ea] [] cpos) _ => decide (m = "append") && decide (t.N[i]? = some x) && visB t.sc x && nmOk x && noStar ea && (p2.endLine == cpos.line) && chk P SH n t a ea
    | .pop i j, .Assign [.Name y px] (.Call (.Attribute (.Name x _) m p2) [] [] cpos) _ => decide (m = "pop") && tgB t (.nm i) (.Name y px) && nz mc [i] && decide (t.N[j]? = some x) && visB t.sc x && nmOk x && (p2.endLine == cpos.line)
    | .appPop i j a, .Expr (.Call (.Attribute (.Name x _) m p2) [.Call (.Attribute (.Name y _) m2 p3) [ea] [] c2] [] cpos) _ => decide (m = "append") && decide (m2 = "pop") && decide (t.N[i]? = some x) && visB t.sc x && nmOk x && decide (t.N[j]? = some y) && visB t.sc y && nmOk y && noStar ea && (p2.endLine == cpos.line) && (p3.endLine == c2.line) && chk P SH n t a ea
    | .slf cn fs as, .Assign [.Tuple ts _ _] (.Tuple vs _ _) _ => decide (mc = some cn) && (match P.cls[cn]? with | some ci => decide (ci.flds.length < 1000) | none => false) && !fs.isEmpty && (match t.N[0]? with | some x => visB t.sc x && nmOk x && slfB x fs ts | none => false) && chkL (chk P SH n t) as vs
    | .slf cn [f] (.cons a .nil), .Assign [.Attribute (.Name x _) f' _] e _ => decide (mc = some cn) && decide (f = f') && (match P.cls[cn]? with | some ci => decide (ci.flds.length < 1000) | none => false) && decide (t.N[0]? = some x) && visB t.sc x && nmOk x && notComp e && chk P SH n t a e
    | .dset a x b, .Assign [.Subscript ea (.Constant (.str x') _ _) _] eb _ => decide (x = x') && notComp eb && chk P SH n t a ea && chk P SH n t b eb
    | .forC tg a b, .For tge (.Subscript ea (.Constant (.str y) _ _) _) body [] _ => decide (y = "cells") && tgB t tg tge && nz mc tg.ixs && chk P SH n t a ea && chkB (chkS P SH mc n t) b body
    | .cApp i j a, .Assign [.Name y py] (.Call (.Name x _) [.Lambda params (.Call (.Attribute (.Name f _) m p2) [ea] [] cpos) scope _] [] _) _ => decide (m = "append") && tgB t (.nm j) (.Name y py) && nz mc [j] && decide (t.lam = some x) && glB t.sc x && nmOk x && LamX.lamSB t.sc scope && noArgs params && decide (t.N[i]? = some f) && visB scope f && nmOk f && noStar ea && (p2.endLine == cpos.line) && chk P SH n (t.lamS scope) a ea
    | _, _ => false
where
  chkB (f : Sx → Stmt → Bool) : Sx → List Stmt → Bool
  | .no, _ => true
  | .pass, [] => true
  | .seq a b, s :: ss => f a s && chkB f b ss
  | _, _ => false
  chkC (P : Prg) (SH : Shapes) (n : Nat) (t : Stat) : C → Expr → Bool
  | .comp own e tg it cond, .ListComp elt [⟨tge, ite, ifs, 0⟩] scope _ => blkC t.N t.sc scope own && tg.ixs.all (fun i => decide (i ∈ own.map (·.2))) && tgB (t.blk scope) tg tge && chkI t (chk P SH n t) tge it ite && chkIfs (chk P SH n (t.blk scope)) cond ifs && chk P SH n (t.blk scope) e elt && notSet ite
  | _, _ => false
end Ah

/-! ## AhZ2 -/
set_option Elab.async false
set_option linter.all false
set_option maxRecDepth 100000
set_option maxHeartbeats 8000000
/-! Ah: what is checked is kept: statements. -/
namespace Ah
open PySem PySem.Spec PyProof.Rows L2
section
variable {X : Cx} {G : Ah.G} {E : XK} {P : Prg} {SH : Shapes} {cl : Cl} {k n : Nat} {t : Stat} {c : C} {e : Expr} {es : List Expr} {M : Me} {mc : Option Nat} {st : Stmt} {sts : List Stmt} {sa sb : Sx} {fu : Nat}
theorem pf_of (hx : KX X G P SH cl E k t) (hf : frsh c = true) (h : chk P SH n t c e = true) : PFv X G E P cl c e := by
  cases n with
  | zero => cases h
  | succ n =>
    have ih : ∀ c e, chk P SH n t c e = true → Bth X G E P cl c e := fun c e => chk_ok n hx
    have gl : ∀ {x}, glB t.sc x = true → glB X.env.scope x = true := fun w => by rw [hx.xs.sc]; exact w
    have hK := hx.ok.K
    unfold chk at h
    split at h <;> try (cases hf; done)
    · rename_i op a b ea op' eb p
      simp only [Bool.and_eq_true, decide_eq_true_eq] at h
      obtain ⟨⟨rfl, h2⟩, h3⟩ := h
      cases op <;> try (cases hf; done)
      exact pf_add hK (ih _ _ h2).1 (ih _ _ h3).1
    · rename_i b a x p0 ea p1 hb
      cases b <;> try (cases hf; done)
      simp only [Bool.and_eq_true] at h
      obtain ⟨⟨⟨⟨h1, h2⟩, h3⟩, h4⟩, h5⟩ := h
      have hl : x = "list" := of_decide_eq_true h1
      subst hl
      exact pf_list hx.ok (gl h2) h3 (ih _ _ h5).1
    · exact pf_lst (chkL_ok ih h)
    · simp only [Bool.and_eq_true] at h
      obtain ⟨⟨⟨⟨⟨⟨h1, h2⟩, h3⟩, h4⟩, h5⟩, h6⟩, h7⟩ := h
      refine pf_comp hx.ok (pi_b (chkI_ok hx ih h4)) (by rw [hx.xs.n, hx.xs.sc]; exact h1) (fun i hi => of_decide_eq_true (List.all_eq_true.mp h2 i hi)) (fun s H C cls fp => ?_) (fun s H C cls fp => ?_) (fun s H C cls fp => ?_) (notSet_ok h7)
      · exact pg_tg (hx.blk s H _ C cls fp).xs (hx.blk s H _ C cls fp).ok.nd (hx.blk s H _ C cls fp).ok.calm h3
      · exact chkIfs_ok (fun c e w => chk_ok n (hx.blk s H _ C cls fp) w) h5
      · exact (chk_ok n (hx.blk s H _ C cls fp) h6).1
    · cases h
theorem sole {tg e : Expr} {l : Nat} {env : Env} : swapsWithSole [tg] e l env = swapsWith e (some tg) l env := by
  first | rfl | (unfold swapsWithSole; rfl)
theorem one_store {tgt : Tg} {tg : Expr} {env : Env} (h : tgB t tgt tg = true) : (assignEach [tg] env).map (·.2) = [assign tg env] := by
  unfold tgB at h
  split at h
  · rfl
  · rfl
  · cases h
theorem nz_ok {is : List Nat} (hm : M.map (fun m => m.2.2) = mc) (h : nz mc is = true) : ∀ i ∈ is, M = none ∨ i ≠ 0 := by
  unfold nz at h
  rw [Bool.or_eq_true] at h
  intro i hi
  rcases h with h | h
  · left
    cases M with
    | none => rfl
    | some m => rw [← hm] at h; cases h
  · exact .inr (of_decide_eq_true (List.all_eq_true.mp h i hi))
theorem chkB_ok {f : Sx → Stmt → Bool} (hf : ∀ c s, f c s = true → PSv X G M E P cl fu c s) : ∀ {c : Sx} {ss : List Stmt}, chkS.chkB f c ss = true → PSsv X G M E P cl fu c ss
  | .no, _, _ => ssv_no
  | .pass, [], _ => ssv_pass
  | .seq a b, s :: ss, h => by
    unfold chkS.chkB at h
    rw [Bool.and_eq_true] at h
    exact ssv_seq (hf _ _ h.1) (chkB_ok hf h.2)
theorem ps_comp_swap {own : List (Str × Nat)} {ce ci cc : C} {tg : Tg} {elt tge ite : Expr} {ifs : List Expr} {scope : Scope} {pos px spos : Pos} {x : Str} {i : Nat} (hx : KX X G P SH cl E k t) (hN : t.N[i]? = some x) (hl : t.sc.names.lookup x = some .local) (hsw : swB t.sc x px pos scope = true)
    (h : chkS.chkC P SH n t (.comp own ce tg ci cc) (.ListComp elt [⟨tge, ite, ifs, 0⟩] scope pos) = true) : ∃ te, PS X (.Assign [.Name x px] (.ListComp elt [⟨tge, ite, ifs, 0⟩] scope pos) spos) (tAsg te (gName i)) ∧ ∀ σ H Q, tR G E (ev P cl (.comp own ce tg ci cc)) σ H Q → te σ H Q := by
  have ih : ∀ c e, chk P SH n t c e = true → Bth X G E P cl c e := fun c e => chk_ok n hx
  unfold chkS.chkC at h
  simp only [Bool.and_eq_true] at h
  obtain ⟨⟨⟨⟨⟨⟨h1, h2⟩, h3⟩, h4⟩, h5⟩, h6⟩, h7⟩ := h
  have hv : ∀ i ∈ tg.ixs, i ∈ own.map (·.2) := fun i hi => of_decide_eq_true (List.all_eq_true.mp h2 i hi)
  refine ⟨_, ps_setLc hx.ok.calm hx.ok.nd (by rw [hx.xs.n]; exact hN) (by rw [hx.xs.sc]; exact hl) (by rw [swaps_lc, hx.xs.sc, hsw]) (pi_b (chkI_ok hx ih h4)) (blkOk_by (by rw [hx.xs.n, hx.xs.sc]; exact h1)) (fun s H C cls fp => pg_tg (hx.blk s H _ C cls fp).xs (hx.blk s H _ C cls fp).ok.nd (hx.blk s H _ C cls fp).ok.calm h3)
    (fun s H C cls fp => chkIfs_ok (fun c e w => chk_ok n (hx.blk s H _ C cls fp) w) h5) (fun s H C cls fp => (chk_ok n (hx.blk s H _ C cls fp) h6).1) (notSet_ok h7), fun σ H Q q => lc_imp hx.ok hv q⟩
theorem noArgs_eq {a : Arguments} (h : noArgs a = true) : a = ⟨[], [], none, [], [], none, []⟩ := by
  unfold noArgs at h
  split at h
  · rfl
  · cases h
theorem chkS_ok : ∀ (n : Nat) {c : Sx} {s : Stmt}, YX X G P SH cl E k t M mc → chkS P SH mc n t c s = true → PSv X G M E P cl fu c s
  | 0, _, _, _, h => by cases h
  | n + 1, c, s, hy, h => by
    have hx := hy.kx
    have hK := hx.ok.K
    have ih : ∀ c e, chk P SH n t c e = true → Bth X G E P cl c e := fun c e => chk_ok n hx
    have is_ : ∀ c s, chkS P SH mc n t c s = true → PSv X G M E P cl fu c s := fun c s => chkS_ok n hy
    have vis : ∀ {x}, visB t.sc x = true → visB X.env.scope x = true := fun w => by rw [hx.xs.sc]; exact w
    unfold chkS at h
    split at h
    · exact sv_no
    · exact sv_pass ps_pass
    · exact sv_pass ps_doc
    · exact sv_brk ps_break
    · exact sv_cnt ps_continue
    · exact sv_ret (ih _ _ h).1
    · exact sv_retN
    · rw [Bool.and_eq_true] at h
      exact sv_expr (ih _ _ h.2).1 (swaps_no h.1)
    · simp only [Bool.and_eq_true] at h
      exact sv_ife (ih _ _ h.1.1).2 (chkB_ok is_ h.1.2) (chkB_ok is_ h.2)
    · simp only [Bool.and_eq_true] at h
      obtain ⟨⟨h1, h2⟩, h3⟩ := h
      split at h1
      · rename_i ci hci
        simp only [Bool.and_eq_true, decide_eq_true_eq] at h1
        exact sv_rais hx.ok hci (by simpa using h1.2) h1.1 (by rw [hx.xs.sc]; exact h2) h3
      · cases h1
    · -- a comprehension stored
      simp only [Bool.and_eq_true, Bool.or_eq_true, Bool.not_eq_true', decide_eq_true_eq] at h
      obtain ⟨⟨⟨h1, h2⟩, h3⟩, h4⟩ := h
      have g0 := nz_ok hy.me h2
      rcases h4 with h4 | ⟨h4, h5⟩
      · exact sv_asg hK g0 (ps_asg (ih _ _ h3).1 (pg_tg hx.xs hx.ok.nd hx.ok.calm h1) (by rw [sole, swaps_lc, hx.xs.sc, h4]) swaps_nm rfl) fun σ H Q q => q
      · simp only [tgB, Bool.and_eq_true, decide_eq_true_eq] at h1
        cases hsw : swB t.sc _ _ _ _ with
        | true =>
          obtain ⟨te, p1, p2⟩ := ps_comp_swap (spos := _) hx h1.1 h4 hsw h5
          exact sv_asg hK g0 p1 p2
        | false => exact sv_asg hK g0 (ps_asg (ih _ _ h3).1 (pg_tg (tgt := .nm _) hx.xs hx.ok.nd hx.ok.calm (by simp only [tgB, Bool.and_eq_true, decide_eq_true_eq]; exact h1)) (by rw [sole, swaps_lc, hx.xs.sc, hsw]) swaps_nm rfl) fun σ H Q q => q
    · simp only [Bool.and_eq_true, Bool.or_eq_true, Bool.not_eq_true'] at h
      obtain ⟨⟨⟨⟨h1, h2⟩, h3⟩, h4⟩, h5⟩ := h
      refine sv_asg hK (nz_ok hy.me h2) (ps_asg (ih _ _ h5).1 (pg_tg hx.xs hx.ok.nd hx.ok.calm h1) (by rw [sole]; exact swaps_no h3) ?_ (one_store h1)) fun σ H Q q => q
      unfold tgB at h1
      split at h1
      · exact swaps_nm
      · rcases h4 with h4 | h4
        · cases h4
        · exact swaps_tp h4
      · cases h1
    · simp only [Bool.and_eq_true] at h
      obtain ⟨⟨⟨⟨h1, h2⟩, h3⟩, h4⟩, h5⟩ := h
      exact sv_own (nz_ok hy.me h2 _ List.mem_cons_self) (ps_asg (pf_of hx h3 h5) (pg_tg (tgt := .nm _) hx.xs hx.ok.nd hx.ok.calm h1) (by rw [sole]; exact swaps_no h4) swaps_nm rfl) fun σ H Q q => q
    · -- two at once
      simp only [Bool.and_eq_true, Bool.or_eq_true, Bool.not_eq_true', decide_eq_true_eq] at h
      obtain ⟨⟨⟨⟨⟨⟨⟨⟨h1, h2⟩, h3⟩, h4⟩, h5⟩, h6⟩, h7⟩, h8⟩, h9⟩ := h
      have g0 := nz_ok hy.me h3
      have n1 := h1
      have n2 := h2
      simp only [tgB, Bool.and_eq_true, decide_eq_true_eq] at n1 n2
      have q5 := h5
      unfold parB at q5
      simp only [Bool.and_eq_true, Bool.not_eq_true', decide_eq_true_eq, beq_iff_eq] at q5
      have pt : ∀ {i j : Nat} {x y : Str} {px py pt1 pt2 p0 : Pos} {k1 k2 : Nat} {ea eb : Expr}, t.N[i]? = some x → t.N[j]? = some y → i ≠ j → parB t x y px py ea eb = true → ParT X i j ea eb (.Assign [.Tuple [.Name x px, .Name y py] k1 pt1] (.Tuple [ea, eb] k2 pt2) p0) := fun {i j x y px py pt1 pt2 p0 k1 k2 ea eb} e1 e2 e3 e4 => by
        have q := e4
        unfold parB at q
        simp only [Bool.and_eq_true, Bool.not_eq_true', decide_eq_true_eq, beq_iff_eq] at q
        exact ⟨fun ha => ps_par hx.ok.calm hx.ok.nd (by rw [hx.xs.n]; exact e1) (by rw [hx.xs.n]; exact e2) e3 (by rw [hx.xs.sc]; exact q.1.1.1.1.1.2) (by rw [hx.xs.sc]; exact q.1.1.1.1.2) ha (par_ok hx.xs.sc e4) rfl⟩
      rename_i i j oi oj a b x px y py k1 p1 ea eb k2 p2 p3
      subst h6
      cases oi with
      | false => exact sv_par (pt n1.1 n2.1 h4 h5) (g0 i List.mem_cons_self) (g0 j (List.mem_cons_of_mem _ List.mem_cons_self)) q5.1.1.1.1.1.1.1.2 q5.1.1.1.1.1.1.2 (ih _ _ h8).1 (ih _ _ h9).1
      | true =>
        have h7 := h7.resolve_left (fun z => nomatch z)
        exact sv_parO (pt n1.1 n2.1 h4 h5) (g0 i List.mem_cons_self) (g0 j (List.mem_cons_of_mem _ List.mem_cons_self)) h4 q5.1.1.1.1.1.1.1.2 q5.1.1.1.1.1.1.2 (pf_of hx h7.1 h8) (pf_of hx h7.2 h9)
    · -- loops
      simp only [Bool.and_eq_true] at h
      obtain ⟨⟨⟨⟨h1, h2⟩, h3⟩, h4⟩, h5⟩ := h
      exact sv_for (nz_ok hy.me h2) hx.ok hy.po (chkI_ok hx ih h4) (pg_tg hx.xs hx.ok.nd hx.ok.calm h1) (chkB_ok is_ h5) (notSet_ok h3)
    · simp only [Bool.and_eq_true] at h
      exact sv_whl hy.po (ih _ _ h.1).2 (chkB_ok is_ h.2)
    · simp only [Bool.and_eq_true, decide_eq_true_eq] at h
      obtain ⟨⟨⟨⟨⟨⟨rfl, h1⟩, h2⟩, h3⟩, h4⟩, h5⟩, h6⟩ := h
      exact sv_app (by rw [hx.xs.n]; exact h1) (vis h2) h3 h4 h5 (ih _ _ h6).1
    · simp only [Bool.and_eq_true, decide_eq_true_eq] at h
      obtain ⟨⟨⟨⟨⟨⟨rfl, h1⟩, h2⟩, h3⟩, h4⟩, h5⟩, h6⟩ := h
      exact sv_pop (y := Str.empty) (p0 := default) (nz_ok hy.me h2 _ List.mem_cons_self) (by rw [hx.xs.n]; exact h3) (vis h4) h5 h6 fun {te} w => ps_asg w (pg_tg (tgt := .nm _) hx.xs hx.ok.nd hx.ok.calm h1) rfl swaps_nm rfl
    · simp only [Bool.and_eq_true, decide_eq_true_eq] at h
      obtain ⟨⟨⟨⟨⟨⟨⟨⟨⟨⟨⟨rfl, rfl⟩, h1⟩, h2⟩, h3⟩, h4⟩, h5⟩, h6⟩, h7⟩, h8⟩, h9⟩, h10⟩ := h
      exact sv_appPop (by rw [hx.xs.n]; exact h1) (vis h2) h3 h8 (by rw [hx.xs.n]; exact h4) (vis h5) h6 h9 h7 (ih _ _ h10).1
    · -- fields of self
      simp only [Bool.and_eq_true, Bool.not_eq_true', decide_eq_true_eq] at h
      obtain ⟨⟨⟨⟨rfl, h1⟩, h2⟩, h3⟩, h4⟩ := h
      split at h1
      · rename_i ci hci
        split at h3
        · rename_i x hN
          simp only [Bool.and_eq_true] at h3
          exact sv_slfT hx.ok hci hy.me (of_decide_eq_true h1) (by rw [hx.xs.n]; exact hN) (vis h3.1.1) h3.1.2 (fun z => by rw [z] at h2; cases h2) h3.2 (chkL_ok ih h4)
        · cases h3
      · cases h1
    · simp only [Bool.and_eq_true, decide_eq_true_eq] at h
      obtain ⟨⟨⟨⟨⟨⟨⟨rfl, rfl⟩, h1⟩, h2⟩, h3⟩, h4⟩, h5⟩, h6⟩ := h
      split at h1
      · rename_i ci hci
        exact sv_slf1 hx.ok hci hy.me (of_decide_eq_true h1) (by rw [hx.xs.n]; exact h2) (vis h3) h4 (by rw [sole]; exact swaps_no h5) (by
          rename_i e0 _ _ _ _ _
          cases e0 <;> rfl) (ih _ _ h6).1
      · cases h1
    · -- the draw
      simp only [Bool.and_eq_true, decide_eq_true_eq] at h
      obtain ⟨⟨⟨rfl, h1⟩, h2⟩, h3⟩ := h
      exact sv_dset hx.ok (ih _ _ h2).1 (ih _ _ h3).1 fun o => swaps_no h1
    · simp only [Bool.and_eq_true, decide_eq_true_eq] at h
      obtain ⟨⟨⟨⟨rfl, h1⟩, h2⟩, h3⟩, h4⟩ := h
      exact sv_forC (nz_ok hy.me h2) hx.ok hy.po (ih _ _ h3).1 (pg_tg hx.xs hx.ok.nd hx.ok.calm h1) (chkB_ok is_ h4)
    · simp only [Bool.and_eq_true, decide_eq_true_eq] at h
      obtain ⟨⟨⟨⟨⟨⟨⟨⟨⟨⟨⟨⟨⟨rfl, h1⟩, h2⟩, h3⟩, h4⟩, h5⟩, h6⟩, h8⟩, h9⟩, h10⟩, h11⟩, h12⟩, h13⟩, h14⟩ := h
      have hp := noArgs_eq h8
      subst hp
      refine sv_cApp (nz_ok hy.me h2 _ List.mem_cons_self) hx.ok (hx.lam _ h3) (by rw [hx.xs.sc]; exact h4) h5 (by rw [hx.xs.sc]; exact h6) rfl (fun _ _ _ _ _ => rfl) (fun A outer s H E' f c' hr => ?_) fun {te} w => ps_asg w (pg_tg (tgt := .nm _) hx.xs hx.ok.nd hx.ok.calm h1) rfl swaps_nm rfl
      have hl := hx.lamb (E' := E') (outer := outer) (H := H) hr
      exact pe_appW (by rw [hl.xs.n]; exact h9) (by rw [hl.xs.sc]; exact h10) h11 h12 h13 (chk_ok n hl h14).1
    · cases h
end
end Ah

/-! ## AhFn -/
set_option Elab.async false
set_option linter.all false
set_option maxRecDepth 100000
set_option maxHeartbeats 4000000
/-! Ah: a def whose body is checked keeps its promise. -/
namespace Ah
open PySem PySem.Spec PyProof.Rows L2
def endF : R Fl → R D
  | .ok (.nx _) s => .ok .non s
  | .ok (.rt d) s => .ok d s
  | .ok _ _ => .no
  | .exc c ds s => .exc c ds s
  | .no => .no
def z0 (N : List Str) (ds : List (Option D)) : Z := ⟨ds ++ List.replicate (N.length - ds.length) none, [], []⟩
def runF (P : Prg) (cl : Cl) (fu : Nat) (N : List Str) (body : Sx) (ds : List D) (s : Dr) : R D := endF (evS P cl fu body (z0 N (ds.map some)) s)
def endI (c n : Nat) : R Fl → R D
  | .ok (.nx z) s => if z.me.length = n then .ok (.ins c z.me) s else .no
  | .ok _ _ => .no
  | .exc c ds s => .exc c ds s
  | .no => .no
def runI (P : Prg) (cl : Cl) (fu c n : Nat) (N : List Str) (body : Sx) (ds : List D) (s : Dr) : R D := endI c n (evS P cl fu body (z0 N (none :: ds.map some)) s)
def Stat.fn (N : List Str) (scope : Scope) (gd : Bool) (lam : Option Str) : Stat := ⟨N, scope, ownB scope.names, gd, lam⟩
section
variable {P : Prg} {SH : Shapes} {cl : Cl} {G : Ah.G} {Pg : Program} {w : World} {K : PySem.W.Frag} {mg : Str → Option Value} {base : Heap} {k n fu : Nat} {f : Addr} {name qual : Str} {params : Arguments} {body : List Stmt} {scope : Scope} {dV kV doc pm cdv ct oc : Value} {an od : Option Addr} {osl : Array (Option Value)} {N ps : List Str} {gq : Bool} {lam : Option Str} {core : Sx}
/-- the context of a def's body -/
abbrev cxF (Pg : Program) (w : World) (K : PySem.W.Frag) (mg : Str → Option Value) (base : Heap) (N : List Str) (qual : Str) (scope : Scope) (f : Addr) (cdv : Value) (A : Around) (outer : List Env) (s : Shared) (H : Hp) (E : XK) : Cx := cxOf (L2.CX Pg w) Pg w K mg base N qual scope f cdv A outer s H E
theorem xs_fn {A : Around} {outer : List Env} {s : Shared} {H : Hp} {E : XK} : XS (cxF Pg w K mg base N qual scope f cdv A outer s H E) (Stat.fn N scope gq lam) := ⟨rfl, rfl, fun x hx => by
  refine ⟨?_, .inl rfl⟩
  have hx : ownB scope.names x = true := hx
  unfold ownB at hx
  split at hx
  · exact .inl (by assumption)
  · exact .inr (by assumption)
  · cases hx⟩
theorem start_get {ds : List (Option D)} {vs : List V} {i : Nat} {d : D} (hl : ds.length = vs.length) (h : (z0 N ds).env[i]? = some (some d)) : i < ds.length ∧ ds[i]? = some (some d) := by
  have h : (ds ++ List.replicate (N.length - ds.length) none)[i]? = some (some d) := h
  by_cases hi : i < ds.length
  · rw [List.getElem?_append_left hi] at h; exact ⟨hi, h⟩
  · rw [List.getElem?_append_right (by omega), List.getElem?_replicate] at h
    split at h <;> cases h
theorem z0_len {ds : List (Option D)} {vs : List V} (hl : ds.length = vs.length) : (z0 N ds).env.length = (L2.start N vs).length := by
  show (ds ++ List.replicate (N.length - ds.length) none).length = (vs.map some ++ List.replicate (N.length - vs.length) none).length
  rw [List.length_append, List.length_append, List.length_replicate, List.length_replicate, List.length_map, hl]
theorem start_at {vs : List V} {i : Nat} {v : V} (h : vs[i]? = some v) : (L2.start N vs)[i]? = some (some v) := by
  have hi : i < vs.length := (List.getElem?_eq_some_iff.mp h).1
  show (vs.map some ++ _)[i]? = _
  rw [List.getElem?_append_left (by rw [List.length_map]; exact hi), List.getElem?_map, h]; rfl
theorem ExtM.none {H H' : Hp} (x : ExtM G .none H H') : Ext G H H' := fun a o e n t => x a o e (fun m z => nomatch z) n t
/-- a def -/
theorem fn_ok (W : Wd Pg w K mg base G P SH cl k) (lk : K.lookup f = some ⟨oc, od, .func (PySem.W.fnOf name qual params body scope dV kV doc pm an cdv ct), osl⟩) (hcd : PySem.W.codeIn K cdv qual = true) (S : FnScope N ps scope)
    (hL : ∀ (A : Around) (outer : List Env) (s : Shared) (H : Hp) (E : XK), Room (k + 4) (A.deeper (envOfC qual scope s.heap.objs.size f cdv)) → ∀ x, lam = some x → LOk (cxF Pg w K mg base N qual scope f cdv A outer s H E) G P k x)
    (hc : chkS.chkB (chkS P SH .none n (Stat.fn N scope gq lam)) core body = true) : FnG Pg w K mg base (L2.CX Pg w) (k + 5) gq f (PySem.W.fnOf name qual params body scope dV kV doc pm an cdv ct) ps (spF G ps.length (runF P cl fu N core)) := by
  refine ⟨fun vs H Q E h => h.1, fun A outer s H args us vs Q E hr hg e0 hb r hsp => ?_⟩
  obtain ⟨hl, B, ds, sd, d1, bok, g, q⟩ := hsp
  refine LamX.run_ofS lk hcd S (k := k + 4) hr e0 hb r hl fun hr' => ?_
  have hy : YX (cxF Pg w K mg base N qual scope f cdv A outer s H E) G P SH cl E k (Stat.fn N scope gq lam) .none .none :=
    ⟨⟨⟨W, S.nd, rfl, hr'.mono (by omega), takes_of rfl rfl rfl rfl⟩, xs_fn, hg, hL A outer s H E hr'⟩, passes_of rfl, rfl⟩
  refine ⟨_, chkB_ok (fun c s h => chkS_ok n (fu := fu) hy h) hc, B, H, fun _ => 0, z0 N (ds.map some), sd, ?_, ?_⟩
  · have hlen : (ds.map some).length = vs.length := by rw [List.length_map]; exact d1.length
    refine ⟨z0_len hlen, fun i d e _ => ?_, fun i hi => (nomatch hi), fun i hi => (nomatch hi), bok, g, fun a o e _ _ _ => e, ⟨fun m z => (nomatch z)⟩, fun m z => (nomatch z), fun m z => (nomatch z)⟩
    obtain ⟨hi, e1⟩ := start_get hlen e
    rw [List.getElem?_map] at e1
    obtain ⟨d', e2, e3⟩ := Option.map_eq_some_iff.mp e1
    cases e3
    obtain ⟨v, h1, h2⟩ := d1.get e2
    exact ⟨v, start_at h1, h2.mono fun b hb => hb.elim id fun ⟨_, z, _⟩ => nomatch z⟩
  · unfold runF at q
    cases hr : evS P cl fu core (z0 N (ds.map some)) sd with
    | ok fl s1 =>
      rw [hr] at q
      cases fl with
      | nx z => exact fun ad σ H' a st => q .non H' a.ext.none a.good .non
      | bk z => exact q.elim
      | ct z => exact q.elim
      | rt d => exact fun v H' x g' hd => q v H' x.none g' hd
    | exc c es s1 => rw [hr] at q; exact fun cls d H' x g' ix => q cls d H' x.none g' ix
    | no => rw [hr] at q; exact q.elim
/-- an __init__ -/
theorem init_ok {c : Nat} {ci : ClI} (W : Wd Pg w K mg base G P SH cl k) (hci : P.cls[c]? = some ci) (lk : K.lookup f = some ⟨oc, od, .func (PySem.W.fnOf name qual params body scope dV kV doc pm an cdv ct), osl⟩) (hcd : PySem.W.codeIn K cdv qual = true) (S : FnScope N ps scope)
    (hc : chkS.chkB (chkS P SH (some c) n (Stat.fn N scope false .none)) core body = true) : FnG Pg w K mg base (L2.CX Pg w) (k + 5) false f (PySem.W.fnOf name qual params body scope dV kV doc pm an cdv ct) ps (spM G ps.length c (runI P cl fu c ci.flds.length N core)) := by
  refine ⟨fun vs H Q E h => h.1, fun A outer s H args us vs Q E hr hg e0 hb r hsp => ?_⟩
  obtain ⟨hl, B, ds, sd, x, dx, vs', rfl, bx, hx0, d1, bok, g, q⟩ := hsp
  obtain ⟨fi, addr, fd, hfi, hm1, hfl, hnd, hC, Mk, F, Sx, hna, _⟩ := W.cls c ci hci
  refine LamX.run_ofS lk hcd S (k := k + 4) hr e0 hb r hl fun hr' => ?_
  have hy : YX (cxF Pg w K mg base N qual scope f cdv A outer s H E) G P SH cl E k (Stat.fn N scope false .none) (some (x, dx, c)) (some c) :=
    ⟨⟨⟨W, S.nd, rfl, hr'.mono (by omega), takes_of rfl rfl rfl rfl⟩, xs_fn, fun z => (nomatch z), fun x z => (nomatch z)⟩, passes_of rfl, rfl⟩
  refine ⟨_, chkB_ok (fun c s h => chkS_ok n (fu := fu) hy h) hc, B, H, fun _ => 0, z0 N (none :: ds.map some), sd, ?_, ?_⟩
  · have hlen : ((none :: ds.map some) : List (Option D)).length = (V.ref x :: vs').length := by rw [List.length_cons, List.length_cons, List.length_map, d1.length]
    refine ⟨z0_len hlen, fun i d e _ => ?_, fun i hi => (nomatch hi), fun i hi => (nomatch hi), bok, g, fun a o e _ _ _ => e, ⟨fun m z => ?_⟩, fun m z => ?_, fun m z => ?_⟩
    · obtain ⟨hi, e1⟩ := start_get hlen e
      cases i with
      | zero => cases e1
      | succ i =>
        rw [List.getElem?_cons_succ, List.getElem?_map] at e1
        obtain ⟨d', e2, e3⟩ := Option.map_eq_some_iff.mp e1
        cases e3
        obtain ⟨v, h1, h2⟩ := d1.get e2
        exact ⟨v, start_at (by rw [List.getElem?_cons_succ]; exact h1), h2.mono fun b hb => hb.elim id fun ⟨_, z, _⟩ => nomatch z⟩
    · cases z
      exact ⟨[], by simpa using hx0, Nat.zero_le _, .nil⟩
    · cases z; exact bx
    · cases z; exact start_at rfl
  · unfold runI at q
    have xb : ∀ {H'}, ExtM G (some (x, dx, c)) H H' → ExtB G x H H' := fun y a o e n dr t => y a o e (fun m z => by cases z; exact n) dr t
    cases hr : evS P cl fu core (z0 N (none :: ds.map some)) sd with
    | ok fl s1 =>
      rw [hr] at q
      cases fl with
      | nx z =>
        intro ad σ H' a st
        unfold endI at q
        simp only at q
        split at q
        · rename_i hme
          obtain ⟨vs, e1, l1, dm⟩ := a.me.at_ _ rfl
          have hlv : vs.length = ci.flds.length := dm.length.symm.trans hme
          refine q.2 vs H' (xb a.ext) a.good ?_ (by rw [hfl, hlv]) (dm.mono fun b hb => .inl hb)
          have e1 : H' x = some (.ins (G.cls c).1 dx (((G.cls c).2.take vs.length).zip vs)) := e1
          rw [List.take_of_length_le (by rw [hfl, hlv]; exact Nat.le_refl _)] at e1
          exact e1
        · exact q.elim
      | bk z => exact q.elim
      | ct z => exact q.elim
      | rt d => exact q.elim
    | exc c es s1 => rw [hr] at q; exact fun cls d H' y g' ix => q cls d H' (xb y) g' ix
    | no => rw [hr] at q; exact q.elim
end
end Ah

/-! ## AhEnd -/
set_option Elab.async false
set_option linter.all false
set_option maxRecDepth 100000
set_option maxHeartbeats 2000000
/-! Ah: the end of a law's row, by a run at the caller. -/
namespace Ah
open PySem PySem.Spec PyProof.Rows L2
theorem law_callG {P : Program} {w : World} {K : PySem.W.Frag} {mg mb : Str → Option Value} {CX : CXT} {fa a : Addr} {cs : List (Addr × Addr)} {s₁ : Shared} {vs : List Value} {ns : List Int}
    (KX : K.In s₁.heap) (hns : s₁.heap.Ns mainGlobals mg) (hb : s₁.heap.Ns builtinsNs mb) (hbb : ∀ x : Str, x ≠ "__name__" → mb x = bootBuiltins x) (hlim : s₁.heap.NoLimit) (hg : s₁.gens = #[])
    (hT : ∀ p ∈ cs, s₁.heap.get? p.2 = some { cls := .none, data := .fields #[] }) (nT : ∀ p ∈ cs, K.lookup p.2 = none) (C : ∀ p ∈ cs, PySem.W.CodeHd s₁.heap p.1 p.2)
    (hbm : ∃ (bm : Addr) (ob : Obj), mg "__builtins__" = some (.ref bm) ∧ bm ≠ builtinsNs ∧ s₁.heap.get? bm = some ob ∧ ob.cls = .type "module" ∧ ob.dict = some builtinsNs ∧ ob.data = .plain)
    (ha : s₁.heap.get? a = some { cls := .type "list", data := .seq vs.toArray }) (hi : IntsAre vs ns) (hl : ns.length ≤ sizeLine)
    (F : ∀ (base : Heap) (H : Hp), K.In base → base.Ns mainGlobals mg → (∀ p ∈ cs, LamX.TabB base mg p.1 p.2) → Env0 P w K mg base callerA [] s₁ H → (∀ p ∈ cs, H p.2 = some (.tbl #[])) → SqL K H a (ns.map V.int) →
      codeAny (model P w) callerA (.call (.ref fa) ⟨[.ref a], []⟩) (CR CX [] P w H s₁ (fun v _ => v = .bl true) fun _ _ _ => False) s₁)
    (hCX : ∀ H e s', CX [] H s₁ (fun _ _ _ => False) e s' → False) :
    codeAny (model P w) callerA (.call (.ref fa) ⟨[.ref a], []⟩) (fun r s' => r = .ok (.ret (.bool true)) ∧ OldK s₁.heap s'.heap ∧ s'.os = s₁.os ∧ AllBare s'.gens) s₁ := by
  have rv := vals_ints hi
  have lenV := hi.length
  have isT : ∀ b : Addr, b ∈ cs.map (·.2) → s₁.heap.get? b = some { cls := .none, data := .fields #[] } := fun b hb => by
    obtain ⟨p, hp, e⟩ := List.mem_map.mp hb
    rw [← e]
    exact hT p hp
  have aT : a ∉ cs.map (·.2) := fun z => by
    have q := isT a z
    rw [ha] at q
    have z' : Data.seq vs.toArray _ = Data.fields #[] := congrArg Obj.data (Option.some.inj q)
    cases z'
  have memT : ∀ p ∈ cs, p.2 ∈ cs.map (·.2) := fun p hp => List.mem_map.mpr ⟨p, hp, rfl⟩
  -- from an abstract heap in which nothing but the script and the tables may be tracked
  have core : ∀ H : Hp, (∀ p ∈ cs, H p.2 = some (.tbl #[])) → (∀ b, H b = none ∨ b ∈ cs.map (·.2) ∨ ∃ o xs, H b = some (.frz o (.lst xs))) → SqL K H a (ns.map V.int) → HOk P w H s₁.heap → (∀ b, H b ≠ none → b = a ∨ b ∈ cs.map (·.2)) → (H a ≠ none → K.lookup a = none) →
      codeAny (model P w) callerA (.call (.ref fa) ⟨[.ref a], []⟩) (fun r s' => r = .ok (.ret (.bool true)) ∧ OldK s₁.heap s'.heap ∧ s'.os = s₁.os ∧ AllBare s'.gens) s₁ := by
    intro H hH hO hS hok hA hK
    have base_of : ∀ {b : Addr} {o : Obj}, s₁.heap.get? b = some o → H b = none → (hidT s₁.heap H).get? b = some o := fun e n => hidT_get e n
    have noD : ∀ {b : Addr} {o : Obj}, s₁.heap.get? b = some o → (∀ vs n, o.data ≠ .seq vs n) → o.data ≠ .fields #[] → H b = none := fun {b o} e h1 h2 => by
      cases q : H b with
      | none => rfl
      | some u =>
        rcases hA b (by rw [q]; simp) with e' | e'
        · rw [e', ha] at e
          cases e
          exact (h1 _ _ rfl).elim
        · rw [isT b e'] at e
          cases e
          exact (h2 rfl).elim
    have noA : ∀ {b : Addr} {o : Obj} {es : Array DictEntry} {ep : Nat}, s₁.heap.get? b = some o → o.data = .dict es ep → H b = none := fun {b o es ep} e d => by
      refine noD e (fun vs n z => ?_) fun z => ?_
      · rw [d] at z
        cases z
      · rw [d] at z
        cases z
    have nsK : ∀ {b : Addr} {m : Str → Option Value}, s₁.heap.Ns b m → (hidT s₁.heap H).Ns b m := fun {b m} ⟨o, es, ep, e, d, r⟩ => ⟨o, es, ep, base_of e (noA e d), d, r⟩
    have hKb : K.In (hidT s₁.heap H) := fun b o e => base_of (KX b o e) (by
      cases q : H b with
      | none => rfl
      | some u =>
        rcases hA b (by rw [q]; simp) with e' | e'
        · rw [e'] at e q
          rw [hK (by rw [q]; simp)] at e
          cases e
        · obtain ⟨p, hp, ep⟩ := List.mem_map.mp e'
          rw [← ep, nT p hp] at e
          cases e)
    have hM : L2.Mod K mg (hidT s₁.heap H) := ⟨hKb, nsK hns, ⟨mb, nsK hb, hbb⟩, let ⟨mc, h1, h2⟩ := hlim; ⟨mc, nsK h1, h2⟩⟩
    have TB : ∀ p ∈ cs, LamX.TabB (hidT s₁.heap H) mg p.1 p.2 := fun p hp => by
      have hTp := hT p hp
      refine ⟨?_, ?_, fun z => ?_⟩
      · obtain ⟨o, us, file, tf, flags, tg, inF, text, tt, e1, r1, r2, r3, r4, r5, r6, r7, r8, hne⟩ := C p hp
        refine ⟨o, us, file, tf, flags, tg, inF, text, tt, base_of e1 (noD e1 (fun vs n z => ?_) fun z => ?_), r1, r2, r3, r4, r5, r6, r7, r8, hne⟩
        · rw [r2] at z
          cases z
        · rw [r2] at z
          cases z
          simp at r3
      · obtain ⟨bm, ob, b1, b2, b3, b4, b5, b6⟩ := hbm
        have nG : bm ≠ mainGlobals := fun q => by
          obtain ⟨o, es, ep, e, hd, _⟩ := hns
          rw [q, e] at b3
          cases b3
          rw [hd] at b6
          cases b6
        have nP : bm ≠ p.2 := fun q => by
          rw [q, hTp] at b3
          cases b3
          cases b6
        refine ⟨bm, ob, b1, b2, nG, nP, base_of b3 (noD b3 (fun vs n z => ?_) fun z => ?_), b4, b5, b6⟩
        · rw [b6] at z
          cases z
        · rw [b6] at z
          cases z
      · obtain ⟨o, es, ep, e, hd, _⟩ := hns
        rw [z, hTp] at e
        cases e
        cases hd
    have e0 : Env0 P w K mg (hidT s₁.heap H) callerA [] s₁ H := ⟨rfl, hM, fun b o e => of_hidT e, Nat.le_of_eq (hidT_size _ _), trivial, fun b hb => absurd (show b ∈ ([] : List Addr) from hb) (by simp), hok, .of_eq hg⟩
    refine codeAny_mono (F _ H hKb (nsK hns) TB e0 hH hS) fun r s' h => ?_
    cases r with
    | error e => exact (hCX H e s' h).elim
    | ok fl =>
      cases fl with
      | next => exact False.elim h
      | brk => exact False.elim h
      | cont => exact False.elim h
      | ret u =>
        obtain ⟨v, H', os, bare, un, hok', r', q⟩ := h
        have q' : v = .bl true := q
        subst q'
        obtain rfl : u = Value.bool true := r'
        have key : ∀ b o, b ∉ cs.map (·.2) → s₁.heap.get? b = some o → s'.heap.get? b = some o := fun b o nb e => by
          cases q : H b with
          | none => exact un.keep b o e q (by intro z; exact absurd (show b ∈ ([] : List Addr) from z) (by simp)) (by simp)
          | some u =>
            rcases hO b with z | z | ⟨ob, xs, z⟩
            · rw [q] at z; cases z
            · exact absurd z nb
            · have z2 := un.frzs b ob _ z
              obtain ⟨e1, _⟩ := hok b _ z
              obtain ⟨e2, _⟩ := hok' b _ z2
              rw [e] at e1; cases e1
              exact e2
        have grown : ∀ p ∈ cs, ∃ more : Array Value, s'.heap.get? p.2 = some { cls := .none, data := .fields more } := fun p hp => by
          obtain ⟨more, z⟩ := un.tbls p.2 #[] (hH p hp)
          exact ⟨_, hok' p.2 _ z⟩
        refine ⟨rfl, ⟨fun b o e => ?_, fun b o e => ?_⟩, os, bare⟩
        · by_cases hb : b ∈ cs.map (·.2)
          · obtain ⟨p, hp, ep⟩ := List.mem_map.mp hb
            obtain ⟨more, hm⟩ := grown p hp
            rw [← ep] at e ⊢
            rw [hT p hp] at e
            cases e
            exact .inr (.inl ⟨((C p hp).tab (hT p hp)).isCodeTable, rfl, #[], more, rfl, by rw [Array.empty_append]; exact hm⟩)
          · exact .inl (key b o hb e)
        · by_cases hb : b ∈ cs.map (·.2)
          · obtain ⟨p, hp, ep⟩ := List.mem_map.mp hb
            obtain ⟨more, hm⟩ := grown p hp
            rw [← ep]
            exact ⟨_, hm⟩
          · exact ⟨o, key b o hb e⟩
  cases hk : K.lookup a with
  | some o =>
    have e := KX a o hk
    rw [ha] at e
    cases e
    refine core (fun b => if b ∈ cs.map (·.2) then some (.tbl #[]) else none) (fun p hp => if_pos (memT p hp)) (fun b => ?_) (.inr ⟨_, vs.toArray, _, hk, rfl, rfl, rfl, by rw [List.size_toArray, lenV]; exact hl, by simpa using rv⟩) (fun b u z => ?_) (fun b z => ?_) fun z => absurd (show (if a ∈ cs.map (·.2) then some (HO.tbl #[]) else none) = none from if_neg aT) z
    · by_cases hb : b ∈ cs.map (·.2)
      · exact .inr (.inl hb)
      · exact .inl (if_neg hb)
    · by_cases hb : b ∈ cs.map (·.2)
      · have z' := (if_pos hb).symm.trans z
        cases z'
        exact isT b hb
      · have z' := (if_neg hb).symm.trans z
        cases z'
    · by_cases hb : b ∈ cs.map (·.2)
      · exact .inr hb
      · exact absurd (if_neg hb) z
  | none =>
    refine core (fun b => if b = a then some (.frz { cls := .type "list", data := .seq vs.toArray } (.lst (ns.map V.int))) else if b ∈ cs.map (·.2) then some (.tbl #[]) else none) (fun p hp => (if_neg (show ¬ p.2 = a from fun z => aT (by rw [← z]; exact memT p hp))).trans (if_pos (memT p hp))) (fun b => ?_)
      (.inl (.inr ⟨{ cls := .type "list", data := .seq vs.toArray }, if_pos rfl⟩)) (fun b u z => ?_) (fun b z => ?_) fun _ => hk
    · by_cases hb : b = a
      · exact .inr (.inr ⟨_, _, if_pos hb⟩)
      · by_cases hb2 : b ∈ cs.map (·.2)
        · exact .inr (.inl hb2)
        · exact .inl ((if_neg hb).trans (if_neg hb2))
    · by_cases hb : b = a
      · have z' := (if_pos hb).symm.trans z
        cases z'
        rw [hb]
        exact ⟨ha, by rw [List.length_map]; exact hl, vs, _, rv, ha⟩
      · have z1 := (if_neg hb).symm.trans z
        by_cases hb2 : b ∈ cs.map (·.2)
        · have z' := (if_pos hb2).symm.trans z1
          cases z'
          exact isT b hb2
        · have z' := (if_neg hb2).symm.trans z1
          cases z'
    · by_cases hb : b = a
      · exact .inl hb
      · by_cases hb2 : b ∈ cs.map (·.2)
        · exact .inr hb2
        · exact absurd ((if_neg hb).trans (if_neg hb2)) z

/-- what is known of the law's run behind the head's heap h -/
def LawG (l : PySem.W.OpenLaw) (w : World) (K : PySem.W.Frag) (U : CXT) (n : Nat) (mg : Str → Option Value) (fa : Addr) (h : Heap) : Prop :=
  ∃ cs : List (Addr × Addr), (∀ p ∈ cs, h.get? p.2 = some { cls := .none, data := .fields #[] }) ∧ (∀ p ∈ cs, K.lookup p.2 = none) ∧ (∀ p ∈ cs, PySem.W.CodeHd h p.1 p.2) ∧
    ∀ (s₁ : Shared) (base : Heap) (H : Hp) (a : Addr) (ns : List Int), ns.length ≤ n → (∀ z ∈ ns, Builtin.Int.intBits z ≤ 1048576) → K.In base → base.Ns mainGlobals mg → (∀ p ∈ cs, LamX.TabB base mg p.1 p.2) → Env0 l.prog w K mg base callerA [] s₁ H → (∀ p ∈ cs, H p.2 = some (.tbl #[])) →
      SqL K H a (ns.map V.int) → codeAny (model l.prog w) callerA (.call (.ref fa) ⟨[.ref a], []⟩) (CR U [] l.prog w H s₁ (fun v _ => v = .bl true) fun _ _ _ => False) s₁
theorem walk_G {l : PySem.W.OpenLaw} {n : Nat} {q : Program} {loose : List Str} {XP : (Str → Option Value) → Heap → Prop} {YP : World → Heap → Prop} {d : DefRec} {U : World → CXT} (hn : l.most = some n) (hn2 : n ≤ sizeLine) (hdf : d.params.defaults = [])
    (F : ∀ (w : World) (mg : Str → Option Value) (fa : Addr) (h : Heap), YP w h → h.Ns mainGlobals mg → mg d.name = some (.ref fa) → ∃ K : PySem.W.Frag, K.In h ∧ LawG l w K (U w) n mg fa h)
    (hU : ∀ (w : World) (H : Hp) (s : Shared) (e : Value) (s' : Shared), U w [] H s (fun _ _ _ => False) e s' → False) : PySem.W.WalkO q loose XP YP l.row.toRowW d [] (fun f vs => PySem.call f vs) := by
  refine Att.attach_callB hn hdf fun w s₀ s₁ mg mb fa o pm cd doc a vs ns Gd Y ho hd hcd hmg hobj hints hlen hbits hg => ?_
  obtain ⟨K, KX, cs, hT, nT, hC, run⟩ := F w mg fa _ Y Gd.T.g hmg
  exact law_callG KX Gd.T.g Gd.T.b Gd.T.builtins Gd.T.nolimit hg hT nT hC Gd.T.bmain hobj hints (Nat.le_trans hlen hn2) (fun base H a1 a2 a3 a4 a5 a6 => run s₁ base H a ns hlen hbits a1 a2 a3 a4 a5 a6) fun H e s' => hU w H s₁ e s'
end Ah

/-! ## AhHd -/
set_option Elab.async false
set_option linter.all false
set_option maxRecDepth 100000
set_option maxHeartbeats 2000000
/-! Ah: the head's facts by one Hook of our own: defs at any address, tables of code objects, one Bool. -/
namespace Ah
open PySem PySem.Spec PyProof.Rows L2
abbrev DfA := He5.DefA
/-- a def's code object, its table -/
def cdOf (K : PySem.W.Frag) (a : Addr) : Addr := match K.lookup a with
  | some ⟨_, _, .func fd, _⟩ => (match fd.code with | .ref c => c | _ => 0)
  | _ => 0
def cTa (K : PySem.W.Frag) (a : Addr) : Addr × Addr := (cdOf K a, He.tabOf K (cdOf K a))
theorem cdOf_eq {K : PySem.W.Frag} {a : Addr} {oc : Value} {od : Option Addr} {osl : Array (Option Value)} {fd : FuncData} {c : Addr} (lk : K.lookup a = some ⟨oc, od, .func fd, osl⟩) (e : fd.code = .ref c) : cdOf K a = c := by
  unfold cdOf
  rw [lk]
  simp only [e]
def tabsA (g : Addr → Option Obj) (tf : List DfA) (K : PySem.W.Frag) : Bool := tf.all fun d => PySem.W.codeHdIn K (cTa K (d.at_ K)).1 (cTa K (d.at_ K)).2 && (match g (cTa K (d.at_ K)).2 with
  | some o => He.emptyTab o
  | none => false)
/-- what is told -/
structure Says (fn tf : List DfA) (ex : PySem.W.Frag → Bool) (h : Heap) (K : PySem.W.Frag) : Prop where
  more : ex K = true
  ok : ∀ d ∈ fn, d.ok K = true ∧ He5.fnA K (d.at_ K) = d.val
  hd : ∀ d ∈ tf, PySem.W.codeHdIn K (cTa K (d.at_ K)).1 (cTa K (d.at_ K)).2 = true
  out : ∀ d ∈ tf, K.lookup (cTa K (d.at_ K)).2 = none
  empty : ∀ d ∈ tf, h.get? (cTa K (d.at_ K)).2 = some { cls := .none, data := .fields #[] }
def obsS (n : Nat) (fn tf : List DfA) (ex : PySem.W.Frag → Bool) (g : Addr → Option Obj) : He.AlD :=
  (ex (He.frT g (He5.asA g n)) && (fn.all (fun d => d.ok (He.frT g (He5.asA g n))) && tabsA g tf (He.frT g (He5.asA g n))), fn.map fun d => He5.fnA (He.frT g (He5.asA g n)) (d.at_ (He.frT g (He5.asA g n))))
def valS (fn : List DfA) : He.AlD := (true, fn.map He5.DefA.val)
theorem map_mem {α β : Type} {f g : α → β} : ∀ {l : List α}, l.map f = l.map g → ∀ a ∈ l, f a = g a
  | [], _, _, h => nomatch h
  | b :: l, e, a, h => by
    rw [List.map_cons, List.map_cons] at e
    injection e with e1 e2
    rcases List.mem_cons.mp h with rfl | h
    · exact e1
    · exact map_mem e2 a h
theorem says_of {n : Nat} {fn tf : List DfA} {ex : PySem.W.Frag → Bool} {h : Heap} (e : obsS n fn tf ex h.get? = valS fn) : Says fn tf ex h (He.frT h.get? (He5.asA h.get? n)) := by
  have e1 := congrArg Prod.fst e
  have e2 := congrArg Prod.snd e
  have e1 : (ex (He.frT h.get? (He5.asA h.get? n)) && (fn.all (fun d => d.ok (He.frT h.get? (He5.asA h.get? n))) && tabsA h.get? tf (He.frT h.get? (He5.asA h.get? n)))) = true := e1
  generalize hK : He.frT h.get? (He5.asA h.get? n) = K at e1
  have e2 : (fn.map fun d => He5.fnA (He.frT h.get? (He5.asA h.get? n)) (d.at_ (He.frT h.get? (He5.asA h.get? n)))) = fn.map He5.DefA.val := e2
  rw [hK] at e2
  simp only [Bool.and_eq_true] at e1
  obtain ⟨h1, h2, h3⟩ := e1
  have key : ∀ d ∈ tf, PySem.W.codeHdIn K (cTa K (d.at_ K)).1 (cTa K (d.at_ K)).2 = true ∧ ∃ o, h.get? (cTa K (d.at_ K)).2 = some o ∧ He.emptyTab o = true := fun d hd => by
    have q := List.all_eq_true.mp h3 d hd
    simp only [Bool.and_eq_true] at q
    refine ⟨q.1, ?_⟩
    cases w : h.get? (cTa K (d.at_ K)).2 with
    | none => rw [w] at q; cases q.2
    | some o => rw [w] at q; exact ⟨o, rfl, q.2⟩
  refine ⟨h1, fun d hd => ⟨List.all_eq_true.mp h2 d hd, map_mem e2 d hd⟩, fun d hd => (key d hd).1, fun d hd => ?_, fun d hd => ?_⟩
  · obtain ⟨_, o, q, z⟩ := key d hd
    rw [← hK] at q ⊢
    exact He.frT_none q z
  · obtain ⟨_, o, q, z⟩ := key d hd
    rw [q, He.emptyTab_eq z]
def hookS (n : Nat) (fn tf : List DfA) (ex : PySem.W.Frag → Bool) : PySem.W.Hook where
  α := He.AlD
  obs := fun s => obsS n fn tf ex s.heap.get?
  val := fun _ => valS fn
  says := fun _ h => ∃ K : PySem.W.Frag, K.In h ∧ Says fn tf ex h K
  of := fun _ _ e => ⟨_, He.frT_in, says_of e⟩
  keeps := fun _ _ _ ⟨K, hK, c⟩ k => ⟨K, PySem.W.Frag.In.keeps hK k, ⟨c.more, c.ok, c.hd, c.out, fun d hd => k _ _ (c.empty d hd)⟩⟩
theorem obsS_eq {n : Nat} {fn tf : List DfA} {ex : PySem.W.Frag → Bool} {g : Addr → Option Obj} {s : Shared} (h : ∀ a, g a = s.heap.get? a) : obsS n fn tf ex g = (hookS n fn tf ex).obs s := by
  have e : g = s.heap.get? := funext h
  rw [e]; rfl
end Ah

/-! ## AhSt -/
set_option Elab.async false
set_option linter.all false
set_option maxRecDepth 100000
set_option maxHeartbeats 4000000
/-! Ah: facts of the head as one Bool; what follows of them. -/
namespace Ah
open PySem PySem.Spec PyProof.Rows L2
abbrev Frg := PySem.W.Frag
def clN (P : Prg) (c : Nat) : Str := match P.cls[c]? with | some ci => ci.name | none => (match P.cls[0]? with | some ci => ci.name | none => Str.empty)
def clF (P : Prg) (c : Nat) : List Str := match P.cls[c]? with | some ci => ci.flds | none => []
def ecN (P : Prg) (c : Nat) : Str := match P.ecs[c]? with | some ci => ci.name | none => (match P.ecs[0]? with | some ci => ci.name | none => Str.empty)
def ecF (P : Prg) (c : Nat) : List Str := match P.ecs[c]? with | some ci => ci.flds | none => []
def mkG (K : Frg) (P : Prg) (T : List (Addr × Str)) (dp lp : Addr) (cp : Addr × List Int × Bool) : G := ⟨K, dp, lp, cp.1, T, fun c => (He.ga K (clN P c), clF P c), fun c => (He.ga K (ecN P c), ecF P c), cp.2.1, cp.2.2⟩
def tyK (K : Frg) (P : Prg) : Ty → Value
  | .bi n => .type n
  | .cls k => .ref (He.ga K (clN P k))
  | .ecl k => .ref (He.ga K (ecN P k))
def bltL : List Str := ["len", "tuple", "list", "all", "set", "repr", "min", "max", "str", "int", "sorted", "sum", "abs", "isinstance", "range", "enumerate", "bool", "dict"]
def gloB (K : Frg) (x : Str) (a : Addr) : Bool := He.eqO (PySem.W.nsIn K mainGlobals x) (some (some (.ref a)))
def atB (K : Frg) (defs : List DfA) (f : Nat) (a : Addr) : Bool := match defs[f]? with | some d => decide (d.at_ K = a) | none => false
def npB (P : Prg) (f n : Nat) : Bool := match P.fns[f]? with | some fi => decide (fi.ps.length = n) && !fi.gd | none => false
def ty0 (P : Prg) : List Ty := ["NoneType", "bool", "int", "str", "tuple", "list", "dict"].map Ty.bi ++ (List.range (P.cls.length + 1)).map Ty.cls ++ (List.range (P.ecs.length + 1)).map Ty.ecl
def propB (K : Frg) (P : Prg) (defs : List DfA) (C : Addr) (x : Str) (f : Nat) : Bool :=
  npB P f 1 && (match PySem.W.findIn K (.ref C) x with
  | some (some (.ref p)) => He.eqO (PySem.W.specialIn K (.ref p) "__get__") (some (some (.builtin "property.__get__"))) && decide (PySem.W.takesIn K (.ref p) = some true) && (match PySem.W.recIn K p "property" with | some (.ref g :: _) => atB K defs f g | _ => false)
  | _ => false)
def eqB (K : Frg) (P : Prg) (defs : List DfA) (C : Addr) (f : Nat) : Bool :=
  npB P f 2 && (match PySem.W.findIn K (.ref C) "__eq__" with
  | some (some (.ref g)) => PySem.W.isFn K (.ref g) && atB K defs f g && He.eqO (PySem.W.findIn K (.ref C) "__ne__") (some (some (.builtin "object.__ne__"))) && decide (PySem.W.subIn K (.ref C) (.type "object") = some true)
  | _ => false)
def clfB (K : Frg) (C : Addr) : Bool := (PySem.W.plainGet K C Str.empty && (PySem.W.hasDictIn K C && (PySem.W.plainOver K C && He.eqO (PySem.W.findIn K (.ref C) "__setattr__") (some (some (.builtin "object.__setattr__")))))) &&
  (He.eqO (PySem.W.findIn K (.ref C) "__class__") (some (some (.builtin "object.__class__"))) && (He.eqO (PySem.W.specialIn K (.builtin "object.__class__") "__get__") (some (some (.builtin "getset_descriptor.__get__"))) && (decide (PySem.W.takesIn K (.builtin "object.__class__") = some true) && decide (PySem.W.mroIn K C (.type "object") = some true))))
def clsB (K : Frg) (P : Prg) (defs : List DfA) (ci : ClI) : Bool :=
  gloB K ci.name (He.ga K ci.name) && decide ci.flds.Nodup && (He.Fa.mkr ci.name).ok K && atB K defs ci.init (He.ma K (He.ga K ci.name) "__init__") && (match P.fns[ci.init]? with | some _ => true | none => false) &&
  ci.flds.all (fun x => He.eqO (PySem.W.findIn K (.ref (He.ga K ci.name)) x) (some none)) && ci.props.all (fun q => propB K P defs (He.ga K ci.name) q.1 q.2) &&
  (match ci.eqf with | some f => eqB K P defs (He.ga K ci.name) f | none => true) && (ty0 P).all fun t => PySem.W.notFirst K (He.ga K ci.name) (tyK K P t)
def ecB (K : Frg) (C : Addr) : Bool := He.eqO (PySem.W.findIn K (.ref C) "__getattribute__") (some (some (.builtin "BaseException.__getattribute__"))) && He.eqO (PySem.W.findIn K (.ref C) "__getattr__") (some none) && decide (PySem.W.subIn K (.ref C) (.type "BaseException") = some true) &&
  PySem.W.hasDictIn K C && He.eqO (PySem.W.findIn K (.ref C) "__class__") (some (some (.builtin "object.__class__"))) && He.eqO (PySem.W.specialIn K (.builtin "object.__class__") "__get__") (some (some (.builtin "getset_descriptor.__get__"))) && decide (PySem.W.takesIn K (.builtin "object.__class__") = some true) && decide (PySem.W.mroIn K C (.type "object") = some true)
def ecsB (K : Frg) (ci : EcI) : Bool := gloB K ci.name (He.ga K ci.name) && ecB K (He.ga K ci.name) && (!ci.flds.isEmpty || (He.Fa.exc ci.name).ok K)
def gcB (K : Frg) (x : Str) : D → Bool
  | .int i => (He.Fa.int x i).ok K
  | .str z => (He.Fa.str x z).ok K && sOk z
  | _ => false
/-- all of it; tbl: what isinstance says -/
def stB (P : Prg) (defs : List DfA) (tbl : List ((Ty × Ty) × Bool)) (K : Frg) : Bool :=
  bltL.all (fun x => He.eqO (PySem.W.nsIn K mainGlobals x) (some none)) && ["str", "int", "bool", "list", "tuple", "dict"].all (fun n => He.eqO (PySem.W.nsIn K mainGlobals (Str.ofString n)) (some none)) &&
  (P.fns.zip defs).all (fun q => decide (q.1.name = Str.empty) || gloB K q.1.name (q.2.at_ K)) && decide (P.fns.length = defs.length) && !P.cls.isEmpty && !P.ecs.isEmpty &&
  P.cls.all (fun ci => clsB K P defs ci && clfB K (He.ga K ci.name)) && P.ecs.all (fun ci => ecsB K ci) && tbl.all (fun q => decide (PySem.W.kitOne K (tyK K P q.1.1) (tyK K P q.1.2) = some q.2)) && P.gcs.all (fun q => gcB K q.1 q.2)
def tblF (tbl : List ((Ty × Ty) × Bool)) (t c : Ty) : Option Bool := tbl.lookup (t, c)
theorem lookup_mem' {α β : Type} [BEq α] [LawfulBEq α] {l : List (α × β)} {a : α} {b : β} (h : l.lookup a = some b) : (a, b) ∈ l := by
  induction l with
  | nil => cases h
  | cons p r ih =>
    obtain ⟨k, v⟩ := p
    rw [List.lookup_cons] at h
    split at h
    · rename_i e
      have := eq_of_beq e
      subst this
      cases h
      exact List.mem_cons_self
    · exact List.mem_cons_of_mem _ (ih h)
section
variable {K : Frg} {P : Prg} {defs : List DfA} {tbl : List ((Ty × Ty) × Bool)} {mg : Str → Option Value} {h : Heap} {T : List (Addr × Str)} {dp lp : Addr} {cp : Addr × List Int × Bool}
theorem clfB_ok {C : Addr} (c : clfB K C = true) : ClF K C := by
  unfold clfB at c
  simp only [Bool.and_eq_true, decide_eq_true_eq] at c
  obtain ⟨⟨c1, c2, c3, c4⟩, d1, d2, d3, d4⟩ := c
  exact ⟨⟨c1, c2, c3, He.eqO_ok c4⟩, He.eqO_ok d1, He.eqO_ok d2, d3, d4⟩
theorem ecB_ok {C : Addr} (c : ecB K C = true) : ExcC K C := by
  unfold ecB at c
  simp only [Bool.and_eq_true, decide_eq_true_eq] at c
  obtain ⟨⟨⟨⟨⟨⟨⟨c1, c2⟩, c3⟩, c4⟩, c5⟩, c6⟩, c7⟩, c8⟩ := c
  exact ⟨He.eqO_ok c1, He.eqO_ok c2, c3, c4, He.eqO_ok c5, He.eqO_ok c6, c7, c8⟩
/-- what stands, without what the defs promise -/
structure Stc (K : Frg) (P : Prg) (defs : List DfA) (tbl : List ((Ty × Ty) × Bool)) (mg : Str → Option Value) : Prop where
  blt : ∀ x ∈ bltL, mg x = none
  bty : ∀ n : String, n ∈ ["str", "int", "bool", "list", "tuple", "dict"] → mg (Str.ofString n) = none
  fn : ∀ (f : Nat) (fi : FnI), P.fns[f]? = some fi → ∃ d, defs[f]? = some d ∧ (fi.name ≠ Str.empty → mg fi.name = some (.ref (d.at_ K)))
  cls : ∀ (c : Nat) (ci : ClI), P.cls[c]? = some ci → clsB K P defs ci = true ∧ mg ci.name = some (.ref (He.ga K ci.name))
  clf : ∀ c, ClF K (He.ga K (clN P c))
  ecs : ∀ (c : Nat) (ci : EcI), P.ecs[c]? = some ci → mg ci.name = some (.ref (He.ga K ci.name)) ∧ ExcC K (He.ga K ci.name) ∧ (ci.flds = [] → RaiF K (He.ga K ci.name))
  excs : ∀ c, ExcC K (He.ga K (ecN P c))
  isi : ∀ (t c : Ty) (b : Bool), tblF tbl t c = some b → PySem.W.kitOne K (tyK K P t) (tyK K P c) = some b
  gcs : ∀ (j : Nat) (x : Str) (d : D), P.gcs[j]? = some (x, d) → ∃ u v, mg x = some u ∧ RelV v u ∧ ∀ (G : G) B H, Den G B H d v
theorem stc_of (KX : K.In h) (Gm : h.Ns mainGlobals mg) (c : stB P defs tbl K = true) : Stc K P defs tbl mg := by
  unfold stB at c
  simp only [Bool.and_eq_true, Bool.not_eq_true', decide_eq_true_eq] at c
  obtain ⟨⟨⟨⟨⟨⟨⟨⟨⟨c1, c2⟩, c3⟩, c4⟩, c5⟩, c6⟩, c7⟩, c8⟩, c9⟩, c10⟩ := c
  have mem : ∀ {α : Type} {l : List α} {i : Nat} {a : α}, l[i]? = some a → a ∈ l := fun e => List.mem_of_getElem? e
  have ecs : ∀ (c : Nat) (ci : EcI), P.ecs[c]? = some ci → mg ci.name = some (.ref (He.ga K ci.name)) ∧ ExcC K (He.ga K ci.name) ∧ (ci.flds = [] → RaiF K (He.ga K ci.name)) := fun c ci e => by
    have q := List.all_eq_true.mp c8 ci (mem e)
    unfold ecsB at q
    simp only [Bool.and_eq_true, Bool.or_eq_true, Bool.not_eq_true'] at q
    refine ⟨PySem.W.mg_of KX Gm (He.eqO_ok q.1.1), ecB_ok q.1.2, fun hf => ?_⟩
    rcases q.2 with w | w
    · rw [hf] at w; cases w
    · obtain ⟨w1, w2, w3, w4⟩ := He.exc_ok w
      exact ⟨_, _, _, _, PySem.F.excBase_ValueError, w1, w2, w3, w4⟩
  have cls : ∀ (c : Nat) (ci : ClI), P.cls[c]? = some ci → (clsB K P defs ci = true ∧ mg ci.name = some (.ref (He.ga K ci.name))) ∧ ClF K (He.ga K ci.name) := fun c ci e => by
    have q := List.all_eq_true.mp c7 ci (mem e)
    rw [Bool.and_eq_true] at q
    refine ⟨⟨q.1, ?_⟩, clfB_ok q.2⟩
    have q1 := q.1
    unfold clsB at q1
    simp only [Bool.and_eq_true] at q1
    exact PySem.W.mg_of KX Gm (He.eqO_ok q1.1.1.1.1.1.1.1.1)
  refine ⟨fun x hx => PySem.W.mg_none_of KX Gm (He.eqO_ok (List.all_eq_true.mp c1 x hx)), fun n hn => PySem.W.mg_none_of KX Gm (He.eqO_ok (List.all_eq_true.mp c2 n hn)), fun f fi e => ?_, fun c ci e => (cls c ci e).1, fun c => ?_, ecs, fun c => ?_, fun t c b e => ?_, fun j x d e => ?_⟩
  · have hlt : f < defs.length := by rw [← c4]; exact (List.getElem?_eq_some_iff.mp e).1
    refine ⟨defs[f], by simp [hlt], fun hne => ?_⟩
    have hz : (P.fns.zip defs)[f]? = some (fi, defs[f]) := by rw [List.getElem?_zip_eq_some]; exact ⟨e, by simp [hlt]⟩
    have q := List.all_eq_true.mp c3 _ (mem hz)
    simp only [Bool.or_eq_true, decide_eq_true_eq] at q
    exact PySem.W.mg_of KX Gm (He.eqO_ok (q.resolve_left hne))
  · unfold clN
    cases e : P.cls[c]? with
    | some ci => exact (cls c ci e).2
    | none =>
      cases e0 : P.cls[0]? with
      | some ci => exact (cls 0 ci e0).2
      | none =>
        have := List.getElem?_eq_none_iff.mp e0
        have w : P.cls = [] := List.length_eq_zero_iff.mp (by omega)
        rw [w] at c5; cases c5
  · unfold ecN
    cases e : P.ecs[c]? with
    | some ci => exact (ecs c ci e).2.1
    | none =>
      cases e0 : P.ecs[0]? with
      | some ci => exact (ecs 0 ci e0).2.1
      | none =>
        have := List.getElem?_eq_none_iff.mp e0
        have w : P.ecs = [] := List.length_eq_zero_iff.mp (by omega)
        rw [w] at c6; cases c6
  · exact of_decide_eq_true (List.all_eq_true.mp c9 _ (lookup_mem' e))
  · have q := List.all_eq_true.mp c10 _ (mem e)
    simp only at q
    cases d <;> simp only [gcB] at q <;> try (cases q; done)
    · obtain ⟨t, w⟩ := He.int_ok KX Gm q
      exact ⟨_, .int _, w, ⟨t, rfl⟩, fun _ _ _ => .int _⟩
    · rw [Bool.and_eq_true] at q
      obtain ⟨t, w⟩ := He.str_ok KX Gm q.1
      exact ⟨_, .str _, w, ⟨t, rfl⟩, fun _ _ _ => .str q.2⟩
end
end Ah

/-! ## AhGo -/
set_option Elab.async false
set_option linter.all false
set_option maxRecDepth 100000
set_option maxHeartbeats 4000000
/-! Ah: all defs keep their promises, by the depth of calls. -/
namespace Ah
open PySem PySem.Spec PyProof.Rows L2
/-- what is called, to some depth -/
def lvl (P : Prg) (bod : Nat → Option Sx) (prim : Nat → Option (List D → Dr → R D)) (fu : Nat) : Nat → Cl
  | 0 => ⟨fun _ _ _ => .no, fun _ _ _ => .no⟩
  | n + 1 => ⟨fun f ds s => match prim f with
      | some g => g ds s
      | none => match P.fns[f]?, bod f with | some fi, some b => runF P (lvl P bod prim fu n) fu fi.N b ds s | _, _ => .no,
    fun c ds s => match P.cls[c]? with
      | some ci => (match P.fns[ci.init]?, bod ci.init with | some fi, some b => runI P (lvl P bod prim fu n) fu c ci.flds.length fi.N b ds s | _, _ => .no)
      | none => .no⟩
section
variable {Pg : Program} {w : World} {K : Frg} {P : Prg} {defs : List DfA} {tbl : List ((Ty × Ty) × Bool)} {mg : Str → Option Value} {base : Heap} {SH : Shapes} {bod : Nat → Option Sx} {prim : Nat → Option (List D → Dr → R D)} {fu m : Nat} {lamN : Nat → Option Str} {T : List (Addr × Str)} {dp lp : Addr} {cp : Addr × List Int × Bool}
/-- a def as it stands -/
abbrev FdA (K : Frg) (d : DfA) (fd : FuncData) : Prop := FunD K d.name d.qual d.params d.body d.scope (d.dvs K) (d.kws K) (d.at_ K) fd
/-- what is checked of the texts -/
structure Txs (P : Prg) (defs : List DfA) (SH : Shapes) (bod : Nat → Option Sx) (lamN : Nat → Option Str) (m : Nat) : Prop where
  sc : ∀ (f : Nat) (fi : FnI) (d : DfA), P.fns[f]? = some fi → defs[f]? = some d → FnScope fi.N fi.ps d.scope
  fn : ∀ (f : Nat) (fi : FnI) (d : DfA) (b : Sx), P.fns[f]? = some fi → defs[f]? = some d → bod f = some b → (∀ (c : Nat) (ci : ClI), P.cls[c]? = some ci → ci.init ≠ f) → chkS.chkB (chkS P SH none m (Stat.fn fi.N d.scope fi.gd (lamN f))) b d.body = true
  init : ∀ (c : Nat) (ci : ClI) (fi : FnI) (d : DfA) (b : Sx), P.cls[c]? = some ci → P.fns[ci.init]? = some fi → defs[ci.init]? = some d → bod ci.init = some b → chkS.chkB (chkS P SH (some c) m (Stat.fn fi.N d.scope false none)) b d.body = true
/-- how calls bind -/
structure Bnd (K : Frg) (P : Prg) (defs : List DfA) (SH : Shapes) : Prop where
  shp : ∀ (f n : Nat) (ks : List Str), (f, n, ks) ∈ SH → ∀ (fi : FnI) (d : DfA) (fd : FuncData), P.fns[f]? = some fi → defs[f]? = some d → FdA K d fd → Shp K fi fd n ks
  all : ∀ (f : Nat) (fi : FnI) (d : DfA) (fd : FuncData), P.fns[f]? = some fi → defs[f]? = some d → FdA K d fd → Binds K fd fi.ps []
theorem fn0 {f : Addr} {fd : FuncData} {ps : List Str} {gq : Bool} {G : Ah.G} {k : Nat} : FnG Pg w K mg base (L2.CX Pg w) k gq f fd ps (spF G ps.length fun _ _ => .no) :=
  ⟨fun _ _ _ _ h => h.1, fun _ _ _ _ _ _ _ _ _ _ _ _ _ _ ⟨_, _, _, _, _, _, _, q⟩ => q.elim⟩
theorem fn0I {f : Addr} {fd : FuncData} {ps : List Str} {gq : Bool} {G : Ah.G} {k c : Nat} : FnG Pg w K mg base (L2.CX Pg w) k gq f fd ps (spM G ps.length c fun _ _ => .no) :=
  ⟨fun _ _ _ _ h => h.1, fun _ _ _ _ _ _ _ _ _ _ _ _ _ _ ⟨_, _, _, _, _, _, _, _, _, _, _, _, _, q⟩ => q.elim⟩
/-- what the defs promise at a depth -/
structure Prm (Pg : Program) (w : World) (K : Frg) (mg : Str → Option Value) (base : Heap) (G : Ah.G) (P : Prg) (defs : List DfA) (cl : Cl) (k : Nat) : Prop where
  fn : ∀ (f : Nat) (fi : FnI) (d : DfA), P.fns[f]? = some fi → defs[f]? = some d → (∀ (c : Nat) (ci : ClI), P.cls[c]? = some ci → ci.init ≠ f) → ∃ fd, FdA K d fd ∧ FnG Pg w K mg base (L2.CX Pg w) k fi.gd (d.at_ K) fd fi.ps (spF G fi.ps.length (cl.call f))
  init : ∀ (c : Nat) (ci : ClI) (fi : FnI) (d : DfA), P.cls[c]? = some ci → P.fns[ci.init]? = some fi → defs[ci.init]? = some d → ∃ fd, FdA K d fd ∧ FnG Pg w K mg base (L2.CX Pg w) k false (d.at_ K) fd fi.ps (spM G fi.ps.length c (cl.make c))
  mkI : ∀ c ds s d s', cl.make c ds s = .ok d s' → ∃ fs, d = .ins c fs
theorem atB_ok {f : Nat} {a : Addr} (h : atB K defs f a = true) : ∃ d, defs[f]? = some d ∧ d.at_ K = a := by
  unfold atB at h
  split at h
  · rename_i d hd; exact ⟨d, hd, of_decide_eq_true h⟩
  · cases h
theorem npB_ok {f n : Nat} (h : npB P f n = true) : ∃ fi, P.fns[f]? = some fi ∧ fi.ps.length = n ∧ fi.gd = false := by
  unfold npB at h
  split at h
  · rename_i fi hfi
    simp only [Bool.and_eq_true, decide_eq_true_eq, Bool.not_eq_true'] at h
    exact ⟨fi, hfi, h.1, h.2⟩
  · cases h
theorem tyK_in {t : Ty} (h : tyIn t = true) : ∃ t' ∈ ty0 P, tyK K P t' = tyK K P t := by
  unfold ty0
  cases t with
  | bi n =>
    refine ⟨.bi n, ?_, rfl⟩
    have h := of_decide_eq_true h
    simp only [List.mem_append, List.mem_map]
    exact .inl (.inl ⟨n, h, rfl⟩)
  | cls k =>
    by_cases hk : k < P.cls.length + 1
    · exact ⟨.cls k, by simp only [List.mem_append, List.mem_map, List.mem_range]; exact .inl (.inr ⟨k, hk, rfl⟩), rfl⟩
    · refine ⟨.cls P.cls.length, by simp only [List.mem_append, List.mem_map, List.mem_range]; exact .inl (.inr ⟨_, by omega, rfl⟩), ?_⟩
      unfold tyK clN
      simp only
      rw [List.getElem?_eq_none (Nat.le_refl _), List.getElem?_eq_none (by omega : P.cls.length ≤ k)]
  | ecl k =>
    by_cases hk : k < P.ecs.length + 1
    · exact ⟨.ecl k, by simp only [List.mem_append, List.mem_map, List.mem_range]; exact .inr ⟨k, hk, rfl⟩, rfl⟩
    · refine ⟨.ecl P.ecs.length, by simp only [List.mem_append, List.mem_map, List.mem_range]; exact .inr ⟨_, by omega, rfl⟩, ?_⟩
      unfold tyK ecN
      simp only
      rw [List.getElem?_eq_none (Nat.le_refl _), List.getElem?_eq_none (by omega : P.ecs.length ≤ k)]
theorem tyV_K {t : Ty} : tyV (mkG K P T dp lp cp) t = tyK K P t := by cases t <;> rfl
/-- the surroundings of a depth -/
theorem wd_of (S : Stc K P defs tbl mg) (hi : P.isi = tblF tbl) (Bd : Bnd K P defs SH) (ini : ∀ (c : Nat) (ci : ClI), P.cls[c]? = some ci → ∀ (f : Nat) (fi : FnI), P.fns[f]? = some fi → fi.name ≠ Str.empty → ci.init ≠ f) (pini : ∀ (c : Nat) (ci : ClI), P.cls[c]? = some ci → ∀ (c' : Nat) (ci' : ClI), P.cls[c']? = some ci' → (∀ x f, ci.props.lookup x = some f → ci'.init ≠ f) ∧ ∀ f, ci.eqf = some f → ci'.init ≠ f)
    {cl : Cl} {k : Nat} (Pm : Prm Pg w K mg base (mkG K P T dp lp cp) P defs cl k) : Wd Pg w K mg base (mkG K P T dp lp cp) P SH cl k := by
  refine ⟨rfl, S.blt, S.bty, fun f fi hfi hne => ?_, fun c ci hci => ?_, fun c ci hci => ?_, S.excs, fun c ci hci hf => ?_, S.clf, fun t c b h => ?_, Pm.mkI, fun j x d h => ?_⟩
  · obtain ⟨d, hd, hm⟩ := S.fn f fi hfi
    obtain ⟨fd, F, Fg⟩ := Pm.fn f fi d hfi hd fun c ci hc => ini c ci hc f fi hfi hne
    exact ⟨_, fd, hm hne, F.kp, Fg, fun n ks hs => Bd.shp f n ks hs fi d fd hfi hd F⟩
  · obtain ⟨q, hm⟩ := S.cls c ci hci
    have en : clN P c = ci.name := by unfold clN; rw [hci]
    have ef : clF P c = ci.flds := by unfold clF; rw [hci]
    have hC : ClF K (He.ga K ci.name) := en ▸ S.clf c
    unfold clsB at q
    simp only [Bool.and_eq_true, decide_eq_true_eq] at q
    obtain ⟨⟨⟨⟨⟨⟨⟨⟨q1, q2⟩, q3⟩, q4⟩, q5⟩, q6⟩, q7⟩, q8⟩, q9⟩ := q
    have eg : ((mkG K P T dp lp cp).cls c).1 = He.ga K ci.name := by show He.ga K (clN P c) = _; rw [en]
    obtain ⟨d, hd, ha⟩ := atB_ok q4
    split at q5
    · rename_i fi hfi
      obtain ⟨fd, F, Fg⟩ := Pm.init c ci fi d hci hfi hd
      refine ⟨fi, d.at_ K, fd, hfi, by rw [eg]; exact hm, ef, q2, by rw [eg]; exact hC, by rw [eg, ha]; exact He.mkr_ok q3, Fg, fun n ks hs => Bd.shp ci.init n ks hs fi d fd hfi hd F, fun x hx => by rw [eg]; exact He.eqO_ok (List.all_eq_true.mp q6 x hx), fun x f hx => ?_, fun f hf => ?_, fun t ht => ?_⟩
      · have z := List.all_eq_true.mp q7 (x, f) (lookup_mem' hx)
        unfold propB at z
        rw [Bool.and_eq_true] at z
        obtain ⟨z1, z2⟩ := z
        obtain ⟨fi2, hfi2, hl2, hg2⟩ := npB_ok z1
        split at z2
        · rename_i p hp
          simp only [Bool.and_eq_true, decide_eq_true_eq] at z2
          obtain ⟨⟨z3, z4⟩, z5⟩ := z2
          split at z5
          · rename_i g rest hr
            obtain ⟨d2, hd2, ha2⟩ := atB_ok z5
            obtain ⟨fd2, F2, Fg2⟩ := Pm.fn f fi2 d2 hfi2 hd2 fun c' ci' hc' => (pini c ci hci c' ci' hc').1 x f hx
            rw [hg2, ha2] at Fg2
            exact ⟨fi2, p, g, fd2, hfi2, by rw [eg]; exact ⟨hp, He.eqO_ok z3, z4, rest, hr⟩, Fg2, Bd.all f fi2 d2 fd2 hfi2 hd2 F2, hl2⟩
          · cases z5
        · cases z2
      · rw [hf] at q8
        simp only at q8
        unfold eqB at q8
        rw [Bool.and_eq_true] at q8
        obtain ⟨z1, z2⟩ := q8
        obtain ⟨fi2, hfi2, hl2, hg2⟩ := npB_ok z1
        split at z2
        · rename_i g hp
          simp only [Bool.and_eq_true, decide_eq_true_eq] at z2
          obtain ⟨⟨⟨z3, z4⟩, z5⟩, z6⟩ := z2
          obtain ⟨d2, hd2, ha2⟩ := atB_ok z4
          obtain ⟨fd2, F2, Fg2⟩ := Pm.fn f fi2 d2 hfi2 hd2 fun c' ci' hc' => (pini c ci hci c' ci' hc').2 f hf
          rw [hg2, ha2] at Fg2
          exact ⟨fi2, g, fd2, hfi2, by rw [eg]; exact hp, z3, Fg2, Bd.all f fi2 d2 fd2 hfi2 hd2 F2, hl2, by rw [eg]; exact He.eqO_ok z5, by rw [eg]; exact z6⟩
        · cases z2
      · obtain ⟨t', ht', e⟩ := tyK_in (K := K) (P := P) ht
        rw [eg, tyV_K, ← e]
        exact List.all_eq_true.mp q9 t' ht'
    · cases q5
  · obtain ⟨h1, h2, h3⟩ := S.ecs c ci hci
    have en : ecN P c = ci.name := by unfold ecN; rw [hci]
    have ef : ecF P c = ci.flds := by unfold ecF; rw [hci]
    exact ⟨by show mg ci.name = some (.ref (He.ga K (ecN P c))); rw [en]; exact h1, ef, by show ExcC K (He.ga K (ecN P c)); rw [en]; exact h2⟩
  · obtain ⟨h1, h2, h3⟩ := S.ecs c ci hci
    have en : ecN P c = ci.name := by unfold ecN; rw [hci]
    show RaiF K (He.ga K (ecN P c)); rw [en]; exact h3 hf
  · rw [tyV_K, tyV_K]
    exact S.isi t c b (by rw [← hi]; exact h)
  · obtain ⟨u, v, h1, h2, h3⟩ := S.gcs j x d h
    exact ⟨u, v, h1, h2, fun B H => h3 _ B H⟩
theorem FnG.mono {G : Ah.G} {j k : Nat} {gq : Bool} {f : Addr} {fd : FuncData} {ps : List Str} {sp : Sp} (F : FnG Pg w K mg base (L2.CX Pg w) j gq f fd ps sp) (h : j ≤ k) : FnG Pg w K mg base (L2.CX Pg w) k gq f fd ps sp :=
  ⟨F.len, fun A outer s H args us vs Q E hr hg => F.run A outer s H args us vs Q E (hr.mono h) hg⟩
theorem endI_ins {c n : Nat} {r : R Fl} {d : D} {s' : Dr} (h : endI c n r = .ok d s') : ∃ fs, d = .ins c fs := by
  unfold endI at h
  split at h
  · split at h
    · cases h; exact ⟨_, rfl⟩
    · cases h
  · cases h
  · cases h
  · cases h
theorem lvl_call {n f : Nat} {ds : List D} {s : Dr} : (lvl P bod prim fu (n + 1)).call f ds s = (match prim f with
    | some g => g ds s
    | none => match P.fns[f]?, bod f with | some fi, some b => runF P (lvl P bod prim fu n) fu fi.N b ds s | _, _ => .no) := rfl
theorem lvl_make {n c : Nat} {ds : List D} {s : Dr} : (lvl P bod prim fu (n + 1)).make c ds s = (match P.cls[c]? with
    | some ci => (match P.fns[ci.init]?, bod ci.init with | some fi, some b => runI P (lvl P bod prim fu n) fu c ci.flds.length fi.N b ds s | _, _ => .no)
    | none => .no) := rfl
theorem prm_all (S : Stc K P defs tbl mg) (hi : P.isi = tblF tbl) (Bd : Bnd K P defs SH) (ini : ∀ (c : Nat) (ci : ClI), P.cls[c]? = some ci → ∀ (f : Nat) (fi : FnI), P.fns[f]? = some fi → fi.name ≠ Str.empty → ci.init ≠ f)
    (pini : ∀ (c : Nat) (ci : ClI), P.cls[c]? = some ci → ∀ (c' : Nat) (ci' : ClI), P.cls[c']? = some ci' → (∀ x f, ci.props.lookup x = some f → ci'.init ≠ f) ∧ ∀ f, ci.eqf = some f → ci'.init ≠ f)
    (hfd : ∀ d ∈ defs, ∃ fd, FdA K d fd) (Tx : Txs P defs SH bod lamN m)
    (hpr : ∀ (f : Nat) (g : List D → Dr → R D) (fi : FnI) (d : DfA) (fd : FuncData), prim f = some g → P.fns[f]? = some fi → defs[f]? = some d → FdA K d fd → FnG Pg w K mg base (L2.CX Pg w) 5 fi.gd (d.at_ K) fd fi.ps (spF (mkG K P T dp lp cp) fi.ps.length g))
    (hL : ∀ (f : Nat) (fi : FnI) (d : DfA) (x : Str), P.fns[f]? = some fi → defs[f]? = some d → lamN f = some x → ∀ (oc : Value) (od : Option Addr) (dV kV doc pm : Value) (an : Option Addr) (cdv ct : Value) (osl : Array (Option Value)), K.lookup (d.at_ K) = some ⟨oc, od, .func (PySem.W.fnOf d.name d.qual d.params d.body d.scope dV kV doc pm an cdv ct), osl⟩ → PySem.W.codeIn K cdv d.qual = true →
      ∀ (k : Nat) (A : Around) (outer : List Env) (s : Shared) (H : Hp) (E : XK), Room (k + 4) (A.deeper (envOfC d.qual d.scope s.heap.objs.size (d.at_ K) cdv)) → LOk (cxF Pg w K mg base fi.N d.qual d.scope (d.at_ K) cdv A outer s H E) (mkG K P T dp lp cp) P k x) :
    ∀ n, Prm Pg w K mg base (mkG K P T dp lp cp) P defs (lvl P bod prim fu n) (5 * n)
  | 0 => ⟨fun f fi d h1 h2 _ => by
      obtain ⟨fd, F⟩ := hfd d (List.mem_of_getElem? h2)
      exact ⟨fd, F, fn0⟩, fun c ci fi d _ h1 h2 => by
      obtain ⟨fd, F⟩ := hfd d (List.mem_of_getElem? h2)
      exact ⟨fd, F, fn0I⟩, fun c ds s d s' h => nomatch h⟩
  | n + 1 => by
    have W := wd_of S hi Bd ini pini (prm_all S hi Bd ini pini hfd Tx hpr hL n)
    refine ⟨fun f fi d h1 h2 hn => ?_, fun c ci fi d hc h1 h2 => ?_, fun c ds s d s' h => ?_⟩
    · obtain ⟨fd, F⟩ := hfd d (List.mem_of_getElem? h2)
      refine ⟨fd, F, ?_⟩
      cases hp : prim f with
      | some g =>
        have e : (lvl P bod prim fu (n + 1)).call f = g := by unfold lvl; simp only [hp]
        rw [e]
        exact FnG.mono (G := mkG K P T dp lp cp) (hpr f g fi d fd hp h1 h2 F) (by omega)
      | none =>
        cases hb : bod f with
        | none =>
          have e : (lvl P bod prim fu (n + 1)).call f = fun _ _ => .no := by funext ds s; rw [lvl_call, hp, h1, hb]
          rw [e]; exact fn0
        | some b =>
          have e : (lvl P bod prim fu (n + 1)).call f = runF P (lvl P bod prim fu n) fu fi.N b := by funext ds s; rw [lvl_call, hp, h1, hb]
          rw [e]
          obtain ⟨oc, od, dV, kV, doc, pm, an, cdv, ct, osl, rfl, lk, hcd, _, _⟩ := F.ex
          exact fn_ok W lk hcd (Tx.sc f fi d h1 h2) (fun A outer s H E hr x hx => hL f fi d x h1 h2 hx oc od dV kV doc pm an cdv ct osl lk hcd (5 * n) A outer s H E hr) (Tx.fn f fi d b h1 h2 hb hn)
    · obtain ⟨fd, F⟩ := hfd d (List.mem_of_getElem? h2)
      refine ⟨fd, F, ?_⟩
      cases hb : bod ci.init with
      | none =>
        have e : (lvl P bod prim fu (n + 1)).make c = fun _ _ => .no := by funext ds s; rw [lvl_make, hc]; simp only; rw [h1, hb]
        rw [e]; exact fn0I
      | some b =>
        have e : (lvl P bod prim fu (n + 1)).make c = runI P (lvl P bod prim fu n) fu c ci.flds.length fi.N b := by funext ds s; rw [lvl_make, hc]; simp only; rw [h1, hb]
        rw [e]
        obtain ⟨oc, od, dV, kV, doc, pm, an, cdv, ct, osl, rfl, lk, hcd, _, _⟩ := F.ex
        exact init_ok W hc lk hcd (Tx.sc ci.init fi d h1 h2) (Tx.init c ci fi d b hc h1 h2 hb)
    · unfold lvl at h
      simp only at h
      split at h
      · split at h
        · exact endI_ins h
        · cases h
      · cases h
end
end Ah

/-! ## AhB -/
set_option Elab.async false
set_option linter.all false
set_option maxRecDepth 100000
set_option maxHeartbeats 2000000
/-! Ah: how calls bind. -/
namespace Ah
open PySem PySem.Spec PyProof.Rows L2
/-- the getter of a property -/
def propAt (K : Frg) (C : Addr) (x : Str) : Addr := match PySem.W.findIn K (.ref C) x with
  | some (some (.ref p)) => (match PySem.W.recIn K p "property" with | some (.ref g :: _) => g | _ => 0)
  | _ => 0
section
variable {K : Frg} {x qual : Str} {params : Arguments} {body : List Stmt} {scope : Scope} {dvs : List V} {kws : List (Str × V)} {f : Addr} {fd : FuncData} {fi : FnI} {n : Nat} {ks : List Str}
theorem shp0 (F : FunD K x qual params body scope [] kws f fd) (hf : fi.dfl = [])
    (h : ∀ (kV doc pm : Value) (an : Option Addr) (cdv ct : Value) (us ws full : List Value), us.length = n → ws.length = ks.length → kwPutG fi.ps [] n ks (us ++ ws) = some full →
      bindArgs (PySem.W.fnOf x qual params body scope .none kV doc pm an cdv ct) ⟨us, ks.zip ws⟩ = pure (fi.ps.zip full)) : Shp K fi fd n ks := by
  obtain ⟨oc, od, dV, kV, doc, pm, an, cdv, ct, osl, rfl, lk, hcd, hD, hK⟩ := F.ex
  rcases hD with ⟨_, rfl⟩ | ⟨e, _⟩
  · exact ⟨[], [], .nil, fun G B H _ => hf ▸ .nil, fun s us ws X l1 l2 full e => .of_eq (h kV doc pm an cdv ct us ws full l1 l2 e)⟩
  · exact absurd rfl e
theorem shpD (F : FunD K x qual params body scope dvs kws f fd) (hd : dvs ≠ []) (hf : ∀ (G : G) (B : Bar) (H : Hp), G.K = K → DenL G B H fi.dfl dvs)
    (h : ∀ (T : Addr) (kV doc pm : Value) (an : Option Addr) (cdv ct : Value) (us ws its full : List Value), us.length = n → ws.length = ks.length → its.length = dvs.length → kwPutG fi.ps its n ks (us ++ ws) = some full →
      ∃ k, bindArgs (PySem.W.fnOf x qual params body scope (.ref T) kV doc pm an cdv ct) ⟨us, ks.zip ws⟩ = seqItems? (.ref T) >>= k ∧ k (some its.toArray) = pure (fi.ps.zip full)) : Shp K fi fd n ks := by
  obtain ⟨oc, od, dV, kV, doc, pm, an, cdv, ct, osl, rfl, lk, hcd, hD, hK⟩ := F.ex
  rcases hD with ⟨e, _⟩ | ⟨_, T, o, its, m, rfl, lT, oT, rT⟩
  · exact absurd e hd
  · refine ⟨dvs, its, rT, hf, fun s us ws X l1 l2 full e => ?_⟩
    obtain ⟨k, e1, e2⟩ := h T kV doc pm an cdv ct us ws its full l1 l2 rT.length.symm e
    refine BindsTo.of_looks fun M => ?_
    rw [e1]
    exact looks_items X lT oT (.of_pure e2)
theorem binds0 (F : FunD K x qual params body scope [] kws f fd) {ps : List Str}
    (h : ∀ (kV doc pm : Value) (an : Option Addr) (cdv ct : Value) (us : List Value), us.length = ps.length → bindArgs (PySem.W.fnOf x qual params body scope .none kV doc pm an cdv ct) ⟨us, []⟩ = pure (ps.zip us)) : Binds K fd ps [] := F.bindsN h
theorem bindsD (F : FunD K x qual params body scope dvs kws f fd) (hd : dvs ≠ []) {ps : List Str}
    (h : ∀ (T : Addr) (kV doc pm : Value) (an : Option Addr) (cdv ct : Value) (us its : List Value), us.length = ps.length → its.length = dvs.length →
      ∃ k, bindArgs (PySem.W.fnOf x qual params body scope (.ref T) kV doc pm an cdv ct) ⟨us, []⟩ = seqItems? (.ref T) >>= k ∧ k (some its.toArray) = pure (ps.zip us)) : Binds K fd ps [] := by
  obtain ⟨oc, od, dV, kV, doc, pm, an, cdv, ct, osl, rfl, lk, hcd, hD, hK⟩ := F.ex
  rcases hD with ⟨e, _⟩ | ⟨_, T, o, its, m, rfl, lT, oT, rT⟩
  · exact absurd e hd
  · intro s us X hl
    rw [List.append_nil] at hl ⊢
    obtain ⟨k, e1, e2⟩ := h T kV doc pm an cdv ct us its hl rT.length.symm
    refine BindsTo.of_looks fun M => ?_
    rw [e1]
    exact looks_items X lT oT (.of_pure e2)
end
/-- of all shapes -/
def ShOk (K : Frg) (P : Prg) (defs : List DfA) (q : Nat × Nat × List Str) : Prop := ∀ (fi : FnI) (d : DfA) (fd : FuncData), P.fns[q.1]? = some fi → defs[q.1]? = some d → FdA K d fd → Shp K fi fd q.2.1 q.2.2
theorem mkSh {K : Frg} {P : Prg} {defs : List DfA} {i n : Nat} {ks : List Str} {fi : FnI} {d : DfA} (h1 : P.fns[i]? = some fi) (h2 : defs[i]? = some d) (h : ∀ fd, FdA K d fd → Shp K fi fd n ks) : ShOk K P defs (i, n, ks) := fun fi' d' fd e1 e2 F => by
  have e1 : P.fns[i]? = some fi' := e1
  have e2 : defs[i]? = some d' := e2
  rw [h1] at e1; cases e1
  rw [h2] at e2; cases e2
  exact h fd F
def AllM {α : Type} (Q : α → Prop) : List α → Prop
  | [] => True
  | a :: l => Q a ∧ AllM Q l
theorem all_mem {α : Type} {Q : α → Prop} : ∀ {l : List α}, AllM Q l → ∀ q ∈ l, Q q
  | [], _, _, h => nomatch h
  | a :: l, ⟨h1, h2⟩, q, h => by
    rcases List.mem_cons.mp h with rfl | h
    · exact h1
    · exact all_mem h2 q h
def AllX {α β : Type} (Q : Nat → α → β → Prop) : Nat → List α → List β → Prop
  | k, a :: l, b :: m => Q k a b ∧ AllX Q (k + 1) l m
  | _, _, _ => True
theorem all_ixk {α β : Type} {Q : Nat → α → β → Prop} : ∀ {l : List α} {m : List β} {k : Nat}, AllX Q k l m → ∀ f a b, l[f]? = some a → m[f]? = some b → Q (k + f) a b
  | [], _, _, _, f, _, _, h, _ => by rw [List.getElem?_nil] at h; cases h
  | _ :: _, [], _, _, f, _, _, _, h => by rw [List.getElem?_nil] at h; cases h
  | _ :: l, _ :: m, k, ⟨h1, _⟩, 0, _, _, e1, e2 => by
    rw [List.getElem?_cons_zero] at e1 e2
    cases e1; cases e2; exact h1
  | _ :: l, _ :: m, k, ⟨_, h2⟩, f + 1, a, b, e1, e2 => by
    rw [List.getElem?_cons_succ] at e1 e2
    have := all_ixk h2 f a b e1 e2
    rw [Nat.add_assoc, Nat.add_comm 1 f] at this
    exact this
theorem all_ix {α β : Type} {Q : Nat → α → β → Prop} {l : List α} {m : List β} (h : AllX Q 0 l m) (f : Nat) (a : α) (b : β) (e1 : l[f]? = some a) (e2 : m[f]? = some b) : Q f a b := by
  have := all_ixk h f a b e1 e2
  rw [Nat.zero_add] at this
  exact this
end Ah

/-! ## AhLk -/
set_option Elab.async false
set_option linter.all false
set_option maxRecDepth 100000
set_option maxHeartbeats 2000000
/-! Ah: what a call of a def like _law_caught with a lambda asks, from the head's facts. -/
namespace Ah
open PySem PySem.Spec PyProof.Rows L2
/-- the tables of the makers of lambdas, with the lambdas' names -/
def tabT (K : Frg) (tf : List DfA) : List (Addr × Str) := tf.map fun d => ((cTa K (d.at_ K)).2, (envOfC d.qual d.scope 0 0 .none).qual ++ ("<lambda>" : Str))
/-- they are apart -/
def apB (K : Frg) (tf : List DfA) : Bool := decide (tf.map fun d => (cTa K (d.at_ K)).2).Nodup
theorem codeIn_ref {K : Frg} {cd : Value} {q : Str} (h : PySem.W.codeIn K cd q = true) : ∃ c, cd = .ref c := by
  cases cd with
  | ref c => exact ⟨c, rfl⟩
  | _ => cases h
section
variable {Pg : Program} {w : World} {K : Frg} {P : Prg} {mg : Str → Option Value} {base : Heap} {dp lp : Addr} {cp : Addr × List Int × Bool}
theorem lok_of {d dg : DfA} {fdg : FuncData} {x a e : Str} {CS : Addr} {N Ng : List Str} {T : List (Addr × Str)} {A : Around} {outer : List Env} {s : Shared} {H : Hp} {E : XK} {k : Nat} {oc : Value} {od : Option Addr} {dV kV doc pm cdv ct : Value} {an : Option Addr} {osl : Array (Option Value)}
    (hr : Room (k + 4) (A.deeper (envOfC d.qual d.scope s.heap.objs.size (d.at_ K) cdv)))
    (lk : K.lookup (d.at_ K) = some ⟨oc, od, .func (PySem.W.fnOf d.name d.qual d.params d.body d.scope dV kV doc pm an cdv ct), osl⟩) (hcd : PySem.W.codeIn K cdv d.qual = true)
    (hT : LamX.TabB base mg (cTa K (d.at_ K)).1 (cTa K (d.at_ K)).2) (hm : ((cTa K (d.at_ K)).2, (envOfC d.qual d.scope s.heap.objs.size (d.at_ K) cdv).qual ++ ("<lambda>" : Str)) ∈ T) (hu : ∀ p ∈ T, p.1 = (cTa K (d.at_ K)).2 → p.2 = (envOfC d.qual d.scope s.heap.objs.size (d.at_ K) cdv).qual ++ ("<lambda>" : Str))
    (Fg : FdA K dg fdg) (nx : dg.name = x) (qx : dg.qual = x) (gx : mg x = some (.ref (dg.at_ K))) (hb : L2.Binds K fdg [a] []) (sg : FnScope Ng [a] dg.scope) (h0 : Ng[0]? = some a) (hv : Vis dg.scope a) (hB : CaughtB dg.body dg.scope Ng a e)
    (hl : dg.scope.names.lookup e = some .globalImplicit) (he : mg e = some (.ref CS)) (ne : nmOk e = true) (na : nmOk a = true) (hx : ∀ c, PySem.W.exmOne K (.ref (He.ga K (ecN P c))) (.ref CS) = some true) :
    LOk (cxF Pg w K mg base N d.qual d.scope (d.at_ K) cdv A outer s H E) (mkG K P T dp lp cp) P k x := by
  obtain ⟨c, rfl⟩ := codeIn_ref hcd
  obtain ⟨oc2, od2, dV2, kV2, doc2, pm2, an2, cdv2, ct2, osl2, rfl, lk2, hcd2, _, _⟩ := Fg.ex
  rw [nx, qx] at lk2 hb
  rw [qx] at hcd2
  have ec : (cTa K (d.at_ K)).1 = c := cdOf_eq lk rfl
  refine ⟨hr, ⟨a, e, dg.at_ K, CS, dg.params, dg.body, dg.scope, dV2, kV2, doc2, pm2, cdv2, ct2, oc2, an2, od2, osl2, Ng, gx, Fg.kp, lk2, hcd2, hb, sg, h0, hv, hB, hl, he, ne, na, hx⟩, ⟨c, _, ec ▸ hT, rfl, hm, hu⟩⟩
end
end Ah

/-! ## AhDr -/
set_option Elab.async false
set_option linter.all false
/-! Ah: what the draw's defs (_law_mixed, _law_take) compute, in plain words. Walks of them: not yet. -/
namespace Ah
open PySem PySem.Spec PyProof.Rows L2
def mixBlend (turn great : Int) (cells : List Int) : Int := cells.foldl (fun b c => Int.fmod (b * 69621 + c + turn) great) (Int.fmod (turn * 48271 + Int.fdiv great 11) great)
def mixOne (turn : Int) (cells : List Int) (found great : Int) : Int := found * 2147483659 + Int.fmod (mixBlend turn great cells ^ 5) great
def mixed (s : Dr) : Int × Dr := ([2147483647, 2147483629, 2147483587].foldl (mixOne (s.turn + 1) s.cells) 0, { s with turn := s.turn + 1 })
/-- the rest, filled up -/
def filled (s : Dr) : Dr := if s.rest = 0 then (match s.large with
  | x :: l => { s with rest := x, large := l }
  | [] => { (mixed s).2 with rest := (mixed s).1 }) else s
def took (amount : Int) (s : Dr) : Int × Dr := (Int.fmod (filled s).rest amount, { filled s with rest := Int.fdiv (filled s).rest amount })
end Ah

/-! ## AhBg -/
set_option Elab.async false
set_option linter.all false
set_option maxRecDepth 100000
set_option maxHeartbeats 4000000
/-! Ah: the draw begun. -/
namespace Ah
open PySem PySem.Spec PyProof.Rows L2
/-! ### the plain words -/
def absI (i : Int) : Int := if i < 0 then -i else i
def largeOf (ns : List Int) : List Int := (ns.filter fun c => decide (10 ^ 18 ≤ absI c)).map fun c => absI c - 10 ^ 18
def cellsOf (ns : List Int) : List Int := ns.map absI
def cLg : C := .comp [("cell", 2)] (.bin .Sub (.blt .abs (.var 2)) (.bin .Pow (.int 10) (.int 18))) (.nm 2) (.var 0) (.cmp .GtE (.blt .abs (.var 2)) (.bin .Pow (.int 10) (.int 18)))
def cCl : C := .comp [("cell", 2)] (.blt .abs (.var 2)) (.nm 2) (.var 0) .nop
section
variable {P : Prg} {cl : Cl}
theorem mapR_ints {f : D → Dr → R (List D)} {g : Int → List Int} (h : ∀ i s, f (.int i) s = .ok ((g i).map .int) s) : ∀ (ns : List Int) (s : Dr), mapR f (ns.map D.int) s = .ok ((ns.flatMap g).map .int) s
  | [], s => rfl
  | i :: ns, s => by
    simp only [List.map_cons, mapR, h, R.bind_ok, mapR_ints h ns s, List.flatMap_cons, List.map_append]
theorem ev_Lg {ns : List Int} {o : Option D} {s : Dr} (h : ns.length ≤ LIM) : ev P cl cLg [some (.scr ns), o, none] s = .ok (.lst ((largeOf ns).map .int)) s := by
  unfold cLg
  simp only [ev, items, ofO, R.bind_ok, isNop, List.getElem?_cons_zero]
  rw [mapR_ints (g := fun c => if decide (10 ^ 18 ≤ absI c) = true then [absI c - 10 ^ 18] else [])]
  · have e2 : (ns.flatMap fun c => if decide (10 ^ 18 ≤ absI c) = true then [absI c - 10 ^ 18] else []) = largeOf ns := by
      unfold largeOf
      induction ns with
      | nil => rfl
      | cons c ns ih =>
        have ih := ih (by simp at h; omega)
        rw [List.flatMap_cons, ih, List.filter_cons]
        split <;> simp
    rw [e2]
    have hl : (largeOf ns).length ≤ LIM := by
      unfold largeOf
      rw [List.length_map]
      exact Nat.le_trans (List.length_filter_le _ _) h
    simp [R.quiet, R.lim, hl]
  · intro i s
    simp only [Tg.put, List.map_cons, List.map_nil, wipeE, List.set_cons_succ, List.set_cons_zero]
    simp only [List.getElem?_cons_succ, List.getElem?_cons_zero, R.bind_ok, bltD, opD, ofO, cmpR, cmpD, Option.map, D.truth]
    have e3 : ((10 : Int) ^ (18 : Int).toNat) = 10 ^ 18 := rfl
    simp only [show ((0 : Int) ≤ 18 ∧ (18 : Int) ≤ 1000000 ∧ (10 : Int).natAbs < 2 ^ 64) = True from eq_true ⟨by decide, by decide, by decide⟩, if_true, R.bind_ok, e3]
    unfold absI
    generalize (if i < 0 then -i else i) = a
    by_cases hc : (1000000000000000000 : Int) ≤ a <;> simp [hc]
theorem ev_Cl {ns : List Int} {o : Option D} {s : Dr} (h : ns.length ≤ LIM) : ev P cl cCl [some (.scr ns), o, none] s = .ok (.lst ((cellsOf ns).map .int)) s := by
  unfold cCl
  simp only [ev, items, ofO, R.bind_ok, isNop, List.getElem?_cons_zero]
  rw [mapR_ints (g := fun c => [absI c])]
  · have e2 : (ns.flatMap fun c => [absI c]) = cellsOf ns := by
      unfold cellsOf
      induction ns with
      | nil => rfl
      | cons c ns ih => rw [List.flatMap_cons, ih (by simp at h; omega)]; rfl
    rw [e2]
    have hl : (cellsOf ns).length ≤ LIM := by unfold cellsOf; rw [List.length_map]; exact h
    simp [R.quiet, R.lim, hl]
  · intro i s
    simp only [Tg.put, List.map_cons, List.map_nil, wipeE, List.set_cons_succ, List.set_cons_zero]
    simp only [if_true, List.getElem?_cons_succ, List.getElem?_cons_zero, R.bind_ok, bltD, ofO]
    rfl
theorem ints_inv {G : G} {B : Bar} {H : Hp} : ∀ {ns : List Int} {vs : List V}, DenL G B H (ns.map D.int) vs → vs = ns.map V.int
  | [], _, .nil => rfl
  | i :: ns, _, .cons (.int _) t => by rw [ints_inv t]; rfl
end
/-- what it promises -/
def spB (K : PySem.W.Frag) (T : List (Addr × Str)) : Sp := fun vs H Q _ => ∃ a ns, vs = [.ref a] ∧ SqL K H a (ns.map V.int) ∧ ns.length ≤ LIM ∧ LamX.Tabs T H ∧
  ∀ (dp lp cp : Addr) (H' : Hp), (∀ b o, H b = some o → (∀ ps, o ≠ .tbl ps) → H' b = some o) → LamX.Tabs T H' → Nw H dp → Nw H lp → Nw H cp → lp ≠ cp →
    H' dp = some (.dK [(.inr "large", .ref lp), (.inr "rest", .int 0), (.inr "cells", .ref cp), (.inr "turn", .int 0)]) → H' lp = some (.lst ((largeOf ns).map V.int)) → H' cp = some (.lst ((cellsOf ns).map V.int)) → Q (.ref dp) H'
def nB : List Str := ["script", "large", "cell"]
/-- the text, wherever it stands -/
def begunB (P : Prg) (SH : Shapes) (t : Stat) : List Stmt → Bool
  | [.Assign [.Name x px] (.ListComp elt [⟨tge, ite, ifs, 0⟩] scope pos) _, .Return (some (.Dict [some k1, some k2, some k3, some k4] [.Name y _, .Constant (.int i1) _ _, .ListComp elt2 [⟨tge2, ite2, ifs2, 0⟩] scope2 pos2, .Constant (.int i2) _ _] _)) _] =>
    decide (t.N = nB) && decide (t.N[1]? = some x) && decide (t.N[1]? = some y) && visB t.sc x && visB t.sc y && nmOk x && nmOk y && tgB t (.nm 1) (.Name x px) && decide (t.sc.names.lookup x = some .local) && keyE (.inr "large") k1 && keyE (.inr "rest") k2 && keyE (.inr "cells") k3 && keyE (.inr "turn") k4 && decide (i1 = 0) && decide (i2 = 0) &&
      chkS.chkC P SH 60 t cLg (.ListComp elt [⟨tge, ite, ifs, 0⟩] scope pos) && chkS.chkC P SH 60 t cCl (.ListComp elt2 [⟨tge2, ite2, ifs2, 0⟩] scope2 pos2)
  | _ => false
section
variable {X : Cx} {G : Ah.G} {E : XK} {P : Prg} {SH : Shapes} {cl : Cl} {k n : Nat} {t : Stat} {ce ci cc : C} {tg : Tg} {own : List (Str × Nat)} {elt tge ite : Expr} {ifs : List Expr} {scope : Scope} {pos spos px : Pos} {x : Str}
theorem pf_chkC (hx : KX X G P SH cl E k t) (h : chkS.chkC P SH n t (.comp own ce tg ci cc) (.ListComp elt [⟨tge, ite, ifs, 0⟩] scope pos) = true) : PFv X G E P cl (.comp own ce tg ci cc) (.ListComp elt [⟨tge, ite, ifs, 0⟩] scope pos) := by
  have ih : ∀ c e, chk P SH n t c e = true → Bth X G E P cl c e := fun c e => chk_ok n hx
  unfold chkS.chkC at h
  simp only [Bool.and_eq_true] at h
  obtain ⟨⟨⟨⟨⟨⟨h1, h2⟩, h3⟩, h4⟩, h5⟩, h6⟩, h7⟩ := h
  refine pf_comp hx.ok (pi_b (chkI_ok hx ih h4)) (by rw [hx.xs.n, hx.xs.sc]; exact h1) (fun i hi => of_decide_eq_true (List.all_eq_true.mp h2 i hi)) (fun s H C cls fp => ?_) (fun s H C cls fp => ?_) (fun s H C cls fp => ?_) (notSet_ok h7)
  · exact pg_tg (hx.blk s H _ C cls fp).xs (hx.blk s H _ C cls fp).ok.nd (hx.blk s H _ C cls fp).ok.calm h3
  · exact chkIfs_ok (fun c e w => chk_ok n (hx.blk s H _ C cls fp) w) h5
  · exact (chk_ok n (hx.blk s H _ C cls fp) h6).1
theorem ps_compF {i : Nat} (hx : KX X G P SH cl E k t) (ht : tgB t (.nm i) (.Name x px) = true) (hl : t.sc.names.lookup x = some .local) (h : chkS.chkC P SH n t (.comp own ce tg ci cc) (.ListComp elt [⟨tge, ite, ifs, 0⟩] scope pos) = true) :
    ∃ te, PS X (.Assign [.Name x px] (.ListComp elt [⟨tge, ite, ifs, 0⟩] scope pos) spos) (tAsg te (gName i)) ∧ ∀ σ H Q, tRF G E (ev P cl (.comp own ce tg ci cc)) σ H Q → te σ H Q := by
  cases hsw : swB t.sc x px pos scope with
  | false => exact ⟨_, ps_asg (pf_chkC hx h) (pg_tg (tgt := .nm i) hx.xs hx.ok.nd hx.ok.calm ht) (by rw [sole, swaps_lc, hx.xs.sc, hsw]) swaps_nm rfl, fun σ H Q q => q⟩
  | true =>
    have ih : ∀ c e, chk P SH n t c e = true → Bth X G E P cl c e := fun c e => chk_ok n hx
    unfold chkS.chkC at h
    simp only [Bool.and_eq_true] at h
    obtain ⟨⟨⟨⟨⟨⟨h1, h2⟩, h3⟩, h4⟩, h5⟩, h6⟩, h7⟩ := h
    have hv : ∀ i ∈ tg.ixs, i ∈ own.map (·.2) := fun i hi => of_decide_eq_true (List.all_eq_true.mp h2 i hi)
    simp only [tgB, Bool.and_eq_true, decide_eq_true_eq] at ht
    refine ⟨_, ps_setLc hx.ok.calm hx.ok.nd (by rw [hx.xs.n]; exact ht.1) (by rw [hx.xs.sc]; exact hl) (by rw [swaps_lc, hx.xs.sc, hsw]) (pi_b (chkI_ok hx ih h4)) (blkOk_by (by rw [hx.xs.n, hx.xs.sc]; exact h1)) (fun s H C cls fp => pg_tg (hx.blk s H _ C cls fp).xs (hx.blk s H _ C cls fp).ok.nd (hx.blk s H _ C cls fp).ok.calm h3)
      (fun s H C cls fp => chkIfs_ok (fun c e w => chk_ok n (hx.blk s H _ C cls fp) w) h5) (fun s H C cls fp => (chk_ok n (hx.blk s H _ C cls fp) h6).1) (notSet_ok h7), fun σ H Q q => lcF_imp hx.ok hv q⟩
end
section
variable {P : Prg} {SH : Shapes} {cl : Cl} {G : Ah.G} {Pg : Program} {w : World} {K : PySem.W.Frag} {mg : Str → Option Value} {base : Heap} {k n : Nat} {f : Addr} {name qual : Str} {params : Arguments} {body : List Stmt} {scope : Scope} {dV kV doc pm cdv ct oc : Value} {an od : Option Addr} {osl : Array (Option Value)} {N : List Str}
def s0 : Dr := ⟨[], 0, [], 0⟩
theorem no_live (hG : G.live = false) {a : Addr} : ¬ isDr G a := fun z => by unfold isDr at z; rw [hG] at z; exact Bool.false_ne_true z.1
theorem begun_ok (W : Wd Pg w K mg base G P SH cl k) (hG : G.live = false) (lk : K.lookup f = some ⟨oc, od, .func (PySem.W.fnOf name qual params body scope dV kV doc pm an cdv ct), osl⟩) (hcd : PySem.W.codeIn K cdv qual = true) (S : FnScope N ["script"] scope)
    (hc : begunB P SH (Stat.fn N scope false none) body = true) : FnG Pg w K mg base (L2.CX Pg w) (k + 5) false f (PySem.W.fnOf name qual params body scope dV kV doc pm an cdv ct) ["script"] (spB K G.T) := by
  refine ⟨fun vs H Q E ⟨a, ns, h, _⟩ => by rw [h]; rfl, fun A outer s H args us vs Q E hr hg e0 hb r hsp => ?_⟩
  obtain ⟨a, ns, rfl, hq, hlen, hT, hQ⟩ := hsp
  refine LamX.run_ofS lk hcd S (k := k + 4) hr e0 hb r rfl fun hr' => ?_
  have hx : KX (cxF Pg w K mg base N qual scope f cdv A outer s H E) G P SH cl E k (Stat.fn N scope false none) := ⟨⟨W, S.nd, rfl, hr'.mono (by omega), takes_of rfl rfl rfl rfl⟩, xs_fn, hg, fun x z => (nomatch z)⟩
  unfold begunB at hc
  split at hc
  · simp only [Bool.and_eq_true, decide_eq_true_eq] at hc
    obtain ⟨⟨⟨⟨⟨⟨⟨⟨⟨⟨⟨⟨⟨⟨⟨⟨hN, hx1⟩, hy1⟩, vx⟩, vy⟩, nx⟩, ny⟩, ht⟩, hl⟩, q1⟩, q2⟩, q3⟩, q4⟩, rfl⟩, rfl⟩, c1⟩, c2⟩ := hc
    have hN : N = nB := hN
    subst hN
    obtain ⟨te, p1, i1⟩ := ps_compF (spos := _) hx ht hl c1
    have p2 := pf_chkC hx c2
    have pl := fun (p : Pos) => pe_var (X := cxF Pg w K mg base nB qual scope f cdv A outer s H E) (pos := p) hy1 (vis_of vy) (nmOk_1 ny) (nmOk_2 ny)
    refine ⟨_, pss_cons p1 (pss_one (ps_ret (pe_disp (pps_cons (pe_key q1) (pl _) (pps_cons (pe_key q2) pe_int (pps_cons (pe_key q3) p2 (pps_cons (pe_key q4) pe_int pps_nil)))) rfl rfl (fun z => nomatch z) (by show 4 ≤ 15; decide)))), ?_⟩
    have nl : ∀ {b}, ¬ isDr G b := fun {b} => no_live hG
    have nv : ∀ {p : Prop}, G.live = true → p := fun {p} z => by rw [hG] at z; cases z
    have g0 : Good G s0 H := ⟨⟨nv, nv, nv, nv, nv⟩, hT⟩
    have den0 : Den G (fun _ => False) H (.scr ns) (.ref a) := .scr (hq.elim (fun h => .inl ⟨id, h⟩) fun h => .inr (by rw [W.gk]; exact h))
    have at0 : At G (fun _ => False) [some (.scr ns), none, none] s0 (L2.start nB [.ref a]) H := by
      refine ⟨⟨fun i d e => ?_, rfl⟩, ⟨fun a h => h.elim, fun a h => (nl h).elim⟩, g0⟩
      match i, e with
      | 0, e => cases e; exact ⟨_, rfl, den0⟩
      | 1, e => cases e
      | 2, e => cases e
      | i + 3, e => cases e
    refine i1 _ _ _ ⟨fun _ => False, [some (.scr ns), none, none], s0, at0, ?_⟩
    show finF G E _ H _ (ev P cl cLg _ _)
    rw [ev_Lg hlen]
    intro lp vs H1 nwl _ x1 g1 e1 l1 z1
    have hv := ints_inv l1
    subst hv
    intro d hd
    have x2 : Ext G H1 (L2.upd H1 d (.dK [])) := Ext.upd hd
    have nwd : Nw H d := Nw.back x1 g1.dr hd
    have hld : lp ≠ d := fun z => by rw [z, hd] at e1; cases e1
    have e2 : (L2.upd H1 d (.dK [])) lp = some (.lst ((largeOf ns).map V.int)) := by rw [upd_ne hld]; exact e1
    refine ⟨_, rfl, ?_⟩
    have at2 : At G (fun b => b = lp ∨ b = d) [some (.scr ns), none, none] s0 ((L2.start nB [.ref a]).set 1 (some (.ref lp))) (L2.upd H1 d (.dK [])) := by
      refine ⟨⟨fun i d0 e => ?_, rfl⟩, ⟨fun b h => ?_, fun b h => (nl h).elim⟩, g1.upd hd⟩
      · match i, e with
        | 0, e =>
          cases e
          exact ⟨_, rfl, Den.ext0 (x1.trans x2) g0.dr _ (fun b h => (nl h).elim) (Den.bar _ (fun b z => .inr (z.elim (fun e => by rw [e]; exact nwl) fun e => by rw [e]; exact nwd)) den0)⟩
        | 1, e => cases e
        | 2, e => cases e
        | i + 3, e => cases e
      · rcases h with rfl | rfl
        · exact ⟨_, e2, fun _ z => nomatch z⟩
        · exact ⟨_, upd_same, fun _ z => nomatch z⟩
    refine ⟨fun b => b = lp ∨ b = d, [some (.scr ns), none, none], s0, at2, ?_⟩
    show finF G E _ _ _ (ev P cl cCl _ _)
    rw [ev_Cl hlen]
    intro cp vs2 H3 nwc nBc x3 g3 e3 l3 z3
    have hv := ints_inv l3
    subst hv
    have ed : H3 d = some (.dK []) := x3 _ _ upd_same nl (fun _ z => nomatch z)
    have xa : Ext G H H3 := x1.trans (x2.trans x3)
    have nwc' : Nw H cp := fun o e => Classical.byContradiction fun ht => nwc.no ((x1.trans x2) cp o e nl fun ps z => ht ⟨ps, z⟩) fun ps z => ht ⟨ps, z⟩
    have em : mergeK [] [((.inr "large" : Key), V.ref lp), (.inr "rest", .int 0), (.inr "cells", .ref cp), (.inr "turn", .int 0)] = [(.inr "large", V.ref lp), (.inr "rest", .int 0), (.inr "cells", .ref cp), (.inr "turn", .int 0)] := merge_app _ [] (by show ([.inr "large", .inr "rest", .inr "cells", .inr "turn"] : List Key).Nodup; decide +kernel)
    refine ⟨ed, [(.inr "large", .ref lp), (.inr "rest", .int 0), (.inr "cells", .ref cp), (.inr "turn", .int 0)], rfl, by show 4 ≤ 15; decide, ?_⟩
    rw [em]
    have xw : ∀ {b o}, H3 b = some o → b ≠ d → L2.upd H3 d (.dK [(.inr "large", .ref lp), (.inr "rest", .int 0), (.inr "cells", .ref cp), (.inr "turn", .int 0)]) b = some o := fun {b o} e n => by rw [upd_ne n]; exact e
    exact hQ d lp cp _ (fun b o e nt => xw (xa b o e nl nt) fun z => by rw [z] at e; exact nwd.no e nt) (tabs_wrG g3.tabs ed (.dK _)) nwd nwl nwc' (fun z => nBc (.inl z.symm)) upd_same (xw (x3 _ _ e2 nl fun _ z => nomatch z) hld) (xw e3 fun z => nBc (.inr z))
  · cases hc
end
end Ah

/-! ## AhLw -/
set_option Elab.async false
set_option linter.all false
set_option maxRecDepth 100000
set_option maxHeartbeats 4000000
/-! Ah: the law's own body: the draw begun, then what is checked. -/
namespace Ah
open PySem PySem.Spec PyProof.Rows L2
def lawB (P : Prg) (SH : Shapes) (t : Stat) (c : Sx) : List Stmt → Bool
  | .Assign [.Name x px] (.Call (.Name y _) [.Name z _] [] _) _ :: rest => decide (y = "_law_begun") && glB t.sc y && nmOk y && decide (t.N[0]? = some z) && visB t.sc z && nmOk z && tgB t (.nm 1) (.Name x px) && chkS.chkB (chkS P SH none 60 t) c rest
  | _ => false
/-- the draw's state at first -/
def dr0 (ns : List Int) : Dr := ⟨largeOf ns, 0, cellsOf ns, 0⟩
/-- the slots behind the first statement -/
def zL (N : List Str) (ns : List Int) : Z := ⟨some (.scr ns) :: some .drw :: List.replicate (N.length - 2) none, [], []⟩
def spL (K : PySem.W.Frag) (T : List (Addr × Str)) (P : Prg) (cl : Cl) (fu : Nat) (N : List Str) (c : Sx) : Sp := fun vs H Q _ => ∃ a ns, vs = [.ref a] ∧ SqL K H a (ns.map V.int) ∧ ns.length ≤ LIM ∧ LamX.Tabs T H ∧
  (∃ s', evS P cl fu c (zL N ns) (dr0 ns) = .ok (.rt (.bl true)) s') ∧ ∀ H', Q (.bl true) H'
section
variable {P : Prg} {SH : Shapes} {cl : Cl} {Pg : Program} {w : World} {K : PySem.W.Frag} {mg : Str → Option Value} {base : Heap} {k n fu : Nat} {f fb : Addr} {fdb : FuncData} {name qual : Str} {params : Arguments} {body : List Stmt} {scope : Scope} {dV kV doc pm cdv ct oc : Value} {an od : Option Addr} {osl : Array (Option Value)} {N : List Str} {gq : Bool} {lam : Option Str} {core : Sx} {T : List (Addr × Str)}
theorem law_ok (W : ∀ dp lp cp, Wd Pg w K mg base (mkG K P T dp lp cp) P SH cl k) (hmb : mg "_law_begun" = some (.ref fb)) (hkb : PySem.W.keepIn K (.ref fb) = true) (hbb : Binds K fdb ["script"] []) (Fb : FnG Pg w K mg base (L2.CX Pg w) k false fb fdb ["script"] (spB K T))
    (lk : K.lookup f = some ⟨oc, od, .func (PySem.W.fnOf name qual params body scope dV kV doc pm an cdv ct), osl⟩) (hcd : PySem.W.codeIn K cdv qual = true) (S : FnScope N ["script"] scope)
    (hL : ∀ (dp lp : Addr) (cp : Addr × List Int × Bool) (A : Around) (outer : List Env) (s : Shared) (H : Hp) (E : XK), Room (k + 4) (A.deeper (envOfC qual scope s.heap.objs.size f cdv)) → ∀ x, lam = some x → LOk (cxF Pg w K mg base N qual scope f cdv A outer s H E) (mkG K P T dp lp cp) P k x)
    (hc : lawB P SH (Stat.fn N scope gq lam) core body = true) (hN : 2 ≤ N.length) : FnG Pg w K mg base (L2.CX Pg w) (k + 5) gq f (PySem.W.fnOf name qual params body scope dV kV doc pm an cdv ct) ["script"] (spL K T P cl fu N core) := by
  refine ⟨fun vs H Q E ⟨a, ns, h, _⟩ => by rw [h]; rfl, fun A outer s H args us vs Q E hr hg e0 hb r hsp => ?_⟩
  obtain ⟨a, ns, rfl, hq, hlen, hT, ⟨sE, hev⟩, hQ⟩ := hsp
  refine LamX.run_ofS lk hcd S (k := k + 4) hr e0 hb r rfl fun hr' => ?_
  have hy : ∀ dp lp cp, YX (cxF Pg w K mg base N qual scope f cdv A outer s H E) (mkG K P T dp lp cp) P SH cl E k (Stat.fn N scope gq lam) .none .none := fun dp lp cp =>
    ⟨⟨⟨W dp lp cp, S.nd, rfl, hr'.mono (by omega), takes_of rfl rfl rfl rfl⟩, xs_fn, hg, hL dp lp cp A outer s H E hr'⟩, passes_of rfl, rfl⟩
  have hx := (hy 0 0 (0, [], false)).kx
  unfold lawB at hc
  split at hc
  · simp only [Bool.and_eq_true, decide_eq_true_eq] at hc
    obtain ⟨⟨⟨⟨⟨⟨⟨rfl, h1⟩, h2⟩, h3⟩, h4⟩, h5⟩, h6⟩, h7⟩ := hc
    have prest := fun (G : Addr × Addr × (Addr × List Int × Bool)) => chkB_ok (fun c s h => chkS_ok 60 (fu := fu) (hy G.1 G.2.1 G.2.2) h) h7
    have pv := fun (p : Pos) => pe_var (X := cxF Pg w K mg base N qual scope f cdv A outer s H E) (pos := p) h3 (vis_of h4) (nmOk_1 h5) (nmOk_2 h5)
    have pcall := fun (p p2 p3 : Pos) => pe_callG (X := cxF Pg w K mg base N qual scope f cdv A outer s H E) (p := p) (pos := p2) (kws := []) (R' := fun vs _ H Q => spB K T vs H Q E) (gl_of h1) hmb hkb rfl rfl (pa_cons (pv p3) pa_nil rfl) pk_nil (fun pins s σ H Q us ws vs zs I r1 r2 q => by
        obtain ⟨a1, n1, rfl, _⟩ := id q
        obtain ⟨u, rfl, _⟩ := vals1 r1
        have bt := hbb s [u] I.kIn rfl
        rw [List.append_nil] at bt
        refine wpAny_call (codeAny_mono (Fb.run _ _ s H ⟨[u], []⟩ [u] _ Q E (hx.ok.room.mono (by omega)) (fun z => nomatch z) I.env0 bt r1 q) fun r s' hq => ?_)
        cases r with
        | error e => exact hx.ok.passes pins σ H s e s' I hq
        | ok fl =>
          cases fl with
          | ret u => exact I.after hq
          | next => exact False.elim hq
          | brk => exact False.elim hq
          | cont => exact False.elim hq) (nmOk_1 h2)
    refine ⟨_, pss_cons (ps_asg (pcall _ _ _) (pg_tg (tgt := .nm 1) hx.xs hx.ok.nd hx.ok.calm h6) rfl swaps_nm rfl) ⟨fun pins s σ H D I (q : ∃ G : Addr × Addr × (Addr × List Int × Bool), tSS (mkG K P T G.1 G.2.1 G.2.2) .none E (evS P cl fu core) D σ H) => q.elim fun G q => (prest G).run pins s σ H D I q⟩, ?_⟩
    refine ⟨_, start_at rfl, ?_⟩
    refine ⟨a, ns, rfl, hq, hlen, hT, fun dp lp cp H' ext tabs nd nl nc hne e1 e2 e3 => ?_⟩
    have dr : DrAt (mkG K P T dp lp (cp, cellsOf ns, true)) (dr0 ns) H' := ⟨fun _ => e1, fun _ => e2, fun _ => e3, fun _ => hne, fun _ => rfl⟩
    have na : ∀ {o : HO}, H a = some o → (∀ ps, o ≠ .tbl ps) → ¬ Bz (isDr (mkG K P T dp lp (cp, cellsOf ns, true))) (fun _ => 0) [] a := fun {o} e t z => by
      rcases z with ⟨_, z | z | z⟩ | ⟨i, z, _⟩
      · rw [z] at e; exact nd.no e t
      · rw [z] at e; exact nl.no e t
      · rw [z] at e; exact nc.no e t
      · cases z
    have hS1 : 1 < (L2.start N [V.ref a]).length := by
      show 1 < ([some (V.ref a)] ++ List.replicate (N.length - 1) none).length
      rw [List.length_append, List.length_replicate, List.length_singleton]; omega
    refine ⟨(dp, lp, (cp, cellsOf ns, true)), isDr (mkG K P T dp lp (cp, cellsOf ns, true)), H', fun _ => 0, zL N ns, dr0 ns, ?_, ?_⟩
    · refine ⟨?_, fun i d e _ => ?_, fun i hi => (nomatch hi), fun i hi => (nomatch hi), ⟨fun b hb => dr.there hb, fun _ h => h⟩, ⟨dr, tabs⟩, fun a o e _ _ _ => e, ⟨fun m z => (nomatch z)⟩, fun m z => (nomatch z), fun m z => (nomatch z)⟩
      · show (some (D.scr ns) :: some D.drw :: List.replicate (N.length - 2) none).length = (([some (V.ref a)] ++ List.replicate (N.length - 1) none).set 1 _).length
        rw [List.length_set, List.length_append, List.length_replicate, List.length_singleton, List.length_cons, List.length_cons, List.length_replicate]; omega
      · match i, e with
        | 0, e =>
          cases e
          refine ⟨.ref a, by rw [List.getElem?_set_ne (by decide)]; rfl, .scr ?_⟩
          rcases hq with hq | hq
          · refine .inl ⟨?_, ?_⟩
            · rcases hq with h | ⟨u, h⟩
              · exact na h fun _ z => nomatch z
              · exact na h fun _ z => nomatch z
            · rcases hq with h | ⟨u, h⟩
              · exact .inl (ext _ _ h fun _ z => nomatch z)
              · exact .inr ⟨u, ext _ _ h fun _ z => nomatch z⟩
          · exact .inr hq
        | 1, e =>
          cases e
          exact ⟨.ref dp, by rw [List.getElem?_set_self hS1], .drw rfl⟩
        | i + 2, e =>
          have e : (List.replicate (N.length - 2) (none : Option Ah.D))[i]? = some (some d) := e
          rw [List.getElem?_replicate] at e
          split at e <;> cases e
    · rw [hev]
      exact fun v H2 x g d => by cases d; exact hQ H2
  · cases hc
end
end Ah

/-! ## AhJn -/
set_option Elab.async false
set_option linter.all false
set_option maxRecDepth 100000
set_option maxHeartbeats 4000000
/-! Ah: the law's run from the head's facts and the plain law. -/
namespace Ah
open PySem PySem.Spec PyProof.Rows L2
/-- the facts that the head tells -/
def exB (P : Prg) (defs : List DfA) (tbl : List ((Ty × Ty) × Bool)) (dfB : Frg → Bool) (tf : List DfA) (K : Frg) : Bool := stB P defs tbl K && dfB K && apB K tf && P.ecs.all (fun ci => decide (PySem.W.exmOne K (.ref (He.ga K ci.name)) (.ref (He.ga K "YardError")) = some true))
def nC : List Str := ["work", "caught", "error"]
/-- what is known of a law's texts -/
structure LawS (P : Prg) (SH : Shapes) (tbl : List ((Ty × Ty) × Bool)) (defs tf : List DfA) (bod : Nat → Option Sx) (lamN : Nat → Option Str) (dfB : Frg → Bool) (iC iB iL : Nat) (cL : Sx) (NL : List Str) (m : Nat) : Prop where
  isi : P.isi = tblF tbl
  bnd : ∀ K, dfB K = true → Bnd K P defs SH
  txs : Txs P defs SH bod lamN m
  ini : ∀ (c : Nat) (ci : ClI), P.cls[c]? = some ci → ∀ (f : Nat) (fi : FnI), P.fns[f]? = some fi → fi.name ≠ Str.empty → ci.init ≠ f
  pini : ∀ (c : Nat) (ci : ClI), P.cls[c]? = some ci → ∀ (c' : Nat) (ci' : ClI), P.cls[c']? = some ci' → (∀ x f, ci.props.lookup x = some f → ci'.init ≠ f) ∧ ∀ f, ci.eqf = some f → ci'.init ≠ f
  lam : ∀ (f : Nat) (d : DfA) (x : Str), defs[f]? = some d → lamN f = some x → x = ("_law_caught" : Str) ∧ d ∈ tf
  c : ∃ fi d, P.fns[iC]? = some fi ∧ defs[iC]? = some d ∧ fi.name = ("_law_caught" : Str) ∧ d.name = ("_law_caught" : Str) ∧ d.qual = ("_law_caught" : Str) ∧ fi.ps = (["work"] : List Str) ∧ FnScope nC ["work"] d.scope ∧ CaughtB d.body d.scope nC "work" "YardError" ∧ visB d.scope "work" = true ∧ d.scope.names.lookup ("YardError" : Str) = some NameKind.globalImplicit
  b : ∃ fi d, P.fns[iB]? = some fi ∧ defs[iB]? = some d ∧ fi.name = ("_law_begun" : Str) ∧ fi.ps = (["script"] : List Str) ∧ FnScope nB ["script"] d.scope ∧ begunB P SH (Stat.fn nB d.scope false none) d.body = true
  l : ∃ fi d, P.fns[iL]? = some fi ∧ defs[iL]? = some d ∧ fi.name = ("law" : Str) ∧ fi.ps = (["script"] : List Str) ∧ FnScope NL ["script"] d.scope ∧ lawB P SH (Stat.fn NL d.scope fi.gd (lamN iL)) cL d.body = true ∧ 2 ≤ NL.length
  e0 : ∃ ci, P.ecs[0]? = some ci ∧ ci.name = ("YardError" : Str)
theorem one_of {K : Frg} {tf : List DfA} {h : Nat} {f : Addr} {c : Value} (ap : apB K tf = true) {d : DfA} (hd : d ∈ tf) : ∀ p ∈ tabT K tf, p.1 = (cTa K (d.at_ K)).2 → p.2 = (envOfC d.qual d.scope h f c).qual ++ ("<lambda>" : Str) := by
  intro p hp e
  obtain ⟨d', hd', rfl⟩ := List.mem_map.mp hp
  have ap := of_decide_eq_true ap
  have : d' = d := by
    obtain ⟨i, hi, e1⟩ := List.mem_iff_getElem.mp hd'
    obtain ⟨j, hj, e2⟩ := List.mem_iff_getElem.mp hd
    have e : (cTa K (d'.at_ K)).2 = (cTa K (d.at_ K)).2 := e
    rw [← e1, ← e2] at e
    have hij : i = j := by
      refine (List.getElem_inj ap (i := i) (j := j) (h₀ := by simpa using hi) (h₁ := by simpa using hj)).mp ?_
      simpa using e
    subst hij
    rw [← e1, ← e2]
  subst this
  rfl
theorem mem_of {K : Frg} {tf : List DfA} {h : Nat} {f : Addr} {c : Value} {d : DfA} (hd : d ∈ tf) : ((cTa K (d.at_ K)).2, (envOfC d.qual d.scope h f c).qual ++ ("<lambda>" : Str)) ∈ tabT K tf := List.mem_map.mpr ⟨d, hd, rfl⟩
section
variable {P : Prg} {SH : Shapes} {tbl : List ((Ty × Ty) × Bool)} {defs tf : List DfA} {bod : Nat → Option Sx} {lamN : Nat → Option Str} {dfB : Frg → Bool} {iC iB iL : Nat} {cL : Sx} {NL : List Str} {m : Nat}
theorem join (Z : LawS P SH tbl defs tf bod lamN dfB iC iB iL cL NL m) {l : PySem.W.OpenLaw} {fu n nn : Nat} (hn : 1 ≤ n) (hroom : Room (5 * n + 5) callerA) (hnn : nn ≤ LIM)
    (hev : ∀ ns : List Int, ns.length ≤ nn → (∀ z ∈ ns, Builtin.Int.intBits z ≤ 1048576) → ∃ s', evS P (lvl P bod (fun _ => none) fu n) fu cL (zL NL ns) (dr0 ns) = .ok (.rt (.bl true)) s')
    {w : World} {mg : Str → Option Value} {fa : Addr} {h : Heap} {K : Frg} (Gm : h.Ns mainGlobals mg) (hfa : mg "law" = some (.ref fa)) (KX : K.In h) (c : Says defs tf (exB P defs tbl dfB tf) h K) : LawG l w K (L2.CX l.prog w) nn mg fa h := by
  have he := c.more
  unfold exB at he
  simp only [Bool.and_eq_true] at he
  obtain ⟨⟨⟨h1, h2⟩, h3⟩, h4⟩ := he
  have S := stc_of KX Gm h1
  have hfd : ∀ d ∈ defs, ∃ fd, FdA K d fd := fun d hd => He5.DefA.funD (c.ok d hd).2 (c.ok d hd).1
  refine ⟨tf.map fun d => cTa K (d.at_ K), fun p hp => ?_, fun p hp => ?_, fun p hp => ?_, fun s₁ base H a ns hl hbits KB NB TB E0 hH hS => ?_⟩
  · obtain ⟨d, hd, rfl⟩ := List.mem_map.mp hp; exact c.empty d hd
  · obtain ⟨d, hd, rfl⟩ := List.mem_map.mp hp; exact c.out d hd
  · obtain ⟨d, hd, rfl⟩ := List.mem_map.mp hp; exact PySem.W.codeHd_of_K KX (c.hd d hd)
  · -- the def that catches
    obtain ⟨fiC, dC, c1, c2, c3, c4, c5, c6, c7, c8, c9, c10⟩ := Z.c
    obtain ⟨fdC, FC⟩ := hfd dC (List.mem_of_getElem? c2)
    have gC : mg "_law_caught" = some (.ref (dC.at_ K)) := by
      obtain ⟨d, e1, e2⟩ := S.fn iC fiC c1
      rw [c2] at e1; cases e1
      rw [← c3]; exact e2 (by rw [c3]; decide +kernel)
    have bC : Binds K fdC ["work"] [] := by rw [← c6]; exact (Z.bnd K h2).all iC fiC dC fdC c1 c2 FC
    obtain ⟨ci0, y1, y2⟩ := Z.e0
    have gE : mg "YardError" = some (.ref (He.ga K "YardError")) := by have := (S.ecs 0 ci0 y1).1; rw [y2] at this; exact this
    have hex : ∀ cc, PySem.W.exmOne K (.ref (He.ga K (ecN P cc))) (.ref (He.ga K "YardError")) = some true := fun cc => by
      have key : ∀ ci ∈ P.ecs, PySem.W.exmOne K (.ref (He.ga K ci.name)) (.ref (He.ga K "YardError")) = some true := fun ci hc => of_decide_eq_true (List.all_eq_true.mp h4 ci hc)
      unfold ecN
      split
      · rename_i ci hc; exact key ci (List.mem_of_getElem? hc)
      · rw [y1]; exact key ci0 (List.mem_of_getElem? y1)
    have hL : ∀ (dp lp : Addr) (cp : Addr × List Int × Bool) (f : Nat) (N : List Str) (d : DfA) (x : Str), defs[f]? = some d → lamN f = some x → ∀ (oc : Value) (od : Option Addr) (dV kV doc pm : Value) (an : Option Addr) (cdv ct : Value) (osl : Array (Option Value)), K.lookup (d.at_ K) = some ⟨oc, od, .func (PySem.W.fnOf d.name d.qual d.params d.body d.scope dV kV doc pm an cdv ct), osl⟩ → PySem.W.codeIn K cdv d.qual = true →
        ∀ (k : Nat) (A : Around) (outer : List Env) (s : Shared) (H : Hp) (E : XK), Room (k + 4) (A.deeper (envOfC d.qual d.scope s.heap.objs.size (d.at_ K) cdv)) → LOk (cxF l.prog w K mg base N d.qual d.scope (d.at_ K) cdv A outer s H E) (mkG K P (tabT K tf) dp lp cp) P k x :=
      fun dp lp cp f N d x e2 e3 oc od dV kV doc pm an cdv ct osl lk hcd k A outer s H E hr => by
        obtain ⟨rfl, hd⟩ := Z.lam f d x e2 e3
        exact lok_of (a := "work") (e := "YardError") (Ng := nC) hr lk hcd (TB _ (List.mem_map.mpr ⟨d, hd, rfl⟩)) (mem_of hd) (one_of h3 hd) FC c4 c5 gC bC c7 rfl (vis_of c9) c8 c10 gE (by decide +kernel) (by decide +kernel) hex
    have prm := fun (dp lp : Addr) (cp : Addr × List Int × Bool) => prm_all (Pg := l.prog) (w := w) (base := base) (prim := fun _ => none) (fu := fu) (T := tabT K tf) (dp := dp) (lp := lp) (cp := cp) S Z.isi (Z.bnd K h2) Z.ini Z.pini hfd Z.txs (fun f g fi d fd z => nomatch z) (fun f fi d x _ e2 e3 => hL dp lp cp f fi.N d x e2 e3)
    have W := fun dp lp cp => wd_of S Z.isi (Z.bnd K h2) Z.ini Z.pini (prm dp lp cp n)
    -- the draw begun
    obtain ⟨fiB, dB, b1, b2, b3, b4, b5, b6⟩ := Z.b
    obtain ⟨fdB, FB⟩ := hfd dB (List.mem_of_getElem? b2)
    have gB : mg "_law_begun" = some (.ref (dB.at_ K)) := by
      obtain ⟨d, e1, e2⟩ := S.fn iB fiB b1
      rw [b2] at e1; cases e1
      rw [← b3]; exact e2 (by rw [b3]; decide +kernel)
    have bB : Binds K fdB ["script"] [] := by rw [← b4]; exact (Z.bnd K h2).all iB fiB dB fdB b1 b2 FB
    have W0 := wd_of S Z.isi (Z.bnd K h2) Z.ini Z.pini (prm 0 0 (0, [], false) 0)
    have GB : FnG l.prog w K mg base (L2.CX l.prog w) (5 * n) false (dB.at_ K) fdB ["script"] (spB K (tabT K tf)) := by
      obtain ⟨oc, od, dV, kV, doc, pm, an, cdv, ct, osl, rfl, lk, hcd, _, _⟩ := FB.ex
      exact FnG.mono (G := mkG K P (tabT K tf) 0 0 (0, [], false)) (begun_ok W0 rfl lk hcd b5 b6) (by omega)
    -- the law
    obtain ⟨fiL, dL, l1, l2, l3, l4, l5, l6, l7⟩ := Z.l
    obtain ⟨fdL, FL⟩ := hfd dL (List.mem_of_getElem? l2)
    have gL : mg "law" = some (.ref (dL.at_ K)) := by
      obtain ⟨d, e1, e2⟩ := S.fn iL fiL l1
      rw [l2] at e1; cases e1
      rw [← l3]; exact e2 (by rw [l3]; decide +kernel)
    have efa : fa = dL.at_ K := by rw [hfa] at gL; cases gL; rfl
    subst efa
    have bL : Binds K fdL ["script"] [] := by rw [← l4]; exact (Z.bnd K h2).all iL fiL dL fdL l1 l2 FL
    obtain ⟨oc, od, dV, kV, doc, pm, an, cdv, ct, osl, rfl, lk, hcd, _, _⟩ := FL.ex
    have GL := law_ok (fu := fu) (T := tabT K tf) W gB FB.kp bB GB lk hcd l5 (fun dp lp cp A outer s H E hr x hx => hL dp lp cp iL NL dL x l2 hx oc od dV kV doc pm an cdv ct osl lk hcd (5 * n) A outer s H E hr) l6 l7
    have bt := bL s₁ [.ref a] (KB.keeps fun b o e => (E0.bs b o e).1) rfl
    rw [List.append_nil] at bt
    refine GL.run callerA [] s₁ H ⟨[.ref a], []⟩ [.ref a] [.ref a] _ _ hroom (fun _ => rfl) E0 bt (.cons rfl .nil) ⟨a, ns, rfl, hS, Nat.le_trans hl hnn, fun p hp => ?_, hev ns hl hbits, fun _ => rfl⟩
    obtain ⟨d, hd, rfl⟩ := List.mem_map.mp hp
    exact .nil (hH _ (List.mem_map.mpr ⟨d, hd, rfl⟩))
end
/-! ### checks -/
def emQ (q : Str × Option Str) (j : Nat) (K : Frg) : Bool := match K.lookup (He.dflAt q j K) with
  | some ⟨.type n, _, .seq its _, _⟩ => decide (n = "tuple") && its.isEmpty
  | _ => false
theorem emQ_ok {K : Frg} {q : Str × Option Str} {j : Nat} (h : emQ q j K = true) (G : Ah.G) (B : Bar) (H : Hp) (e : G.K = K) : Den G B H (.tup []) (.ref (He.dflAt q j K)) := by
  subst e
  unfold emQ at h
  split at h
  · rename_i n od its m osl hl
    rw [Bool.and_eq_true] at h
    obtain ⟨h1, h2⟩ := h
    have h1 := of_decide_eq_true h1
    have h3 : its = #[] := by rwa [Array.isEmpty_iff] at h2
    subst h1 h3
    exact .tup (vs := []) (.inr ⟨_, _, m, hl, rfl, rfl, Nat.zero_le _, .nil⟩) .nil (Nat.zero_le _)
  · cases h
def iniB (P : Prg) : Bool := P.cls.all fun ci => match P.fns[ci.init]? with | some fi => decide (fi.name = Str.empty) | none => true
theorem iniB_ok {P : Prg} (h : iniB P = true) : ∀ (c : Nat) (ci : ClI), P.cls[c]? = some ci → ∀ (f : Nat) (fi : FnI), P.fns[f]? = some fi → fi.name ≠ Str.empty → ci.init ≠ f := by
  intro c ci h1 f fi h2 hn e
  have q := List.all_eq_true.mp h ci (List.mem_of_getElem? h1)
  rw [e, h2] at q
  exact hn (of_decide_eq_true q)
def piniB (P : Prg) : Bool := P.cls.all fun ci => P.cls.all fun ci' => ci.props.all (fun p => decide (ci'.init ≠ p.2)) && (match ci.eqf with | some f => decide (ci'.init ≠ f) | none => true)
theorem piniB_ok {P : Prg} (h : piniB P = true) : ∀ (c : Nat) (ci : ClI), P.cls[c]? = some ci → ∀ (c' : Nat) (ci' : ClI), P.cls[c']? = some ci' → (∀ x f, ci.props.lookup x = some f → ci'.init ≠ f) ∧ ∀ f, ci.eqf = some f → ci'.init ≠ f := by
  intro c ci h1 c' ci' h2
  have q := List.all_eq_true.mp (List.all_eq_true.mp h ci (List.mem_of_getElem? h1)) ci' (List.mem_of_getElem? h2)
  rw [Bool.and_eq_true] at q
  refine ⟨fun x f hx => of_decide_eq_true (List.all_eq_true.mp q.1 _ (lookup_mem' hx)), fun f hf => ?_⟩
  have q2 := q.2
  rw [hf] at q2
  exact of_decide_eq_true q2
end Ah

/-! ## AhPl -/
set_option Elab.async false
set_option linter.all false
set_option maxRecDepth 100000
set_option maxHeartbeats 4000000
/-! Ah: plain words of the helpers that all laws have: mixed, take, pick, shuffled, kinds, says. -/
namespace Ah
open PySem PySem.Spec PyProof.Rows L2
theorem maskF_nil {vs : List Nat} : ∀ {env : En} {k : Nat}, maskF [] vs k env = env
  | [], _ => rfl
  | o :: r, k => by simp [maskF, maskF_nil]
@[simp] theorem mask_nil {env : En} {me : List D} {vs : List Nat} : mask ⟨env, [], me⟩ vs = env := maskF_nil
@[simp] theorem keep_nil {env : En} {me : List D} {vs : List Nat} {b : Bool} : (⟨env, [], me⟩ : Z).keep b vs = ⟨env, [], me⟩ := by cases b <;> rfl
@[simp] theorem puts_nm {env : En} {me : List D} {i : Nat} {d : D} : (⟨env, [], me⟩ : Z).puts (.nm i) d = some ⟨env.set i (some d), [], me⟩ := rfl
theorem evS_seq {P : Prg} {cl : Cl} {fu : Nat} {a b : Sx} {z z' : Z} {s s' : Dr} (h : evS P cl fu a z s = .ok (.nx z') s') : evS P cl fu (.seq a b) z s = evS P cl fu b z' s' := by
  rw [evS, h]; rfl
def cMixed : Sx := (.seq (.dset (.var 0) "turn" (.bin .Add (.dgi (.var 0) "turn") (.int 1)))
  (.seq (.par 2 3 false false (.blt .int (.dgi (.var 0) "turn")) (.int 0))
  (.seq (.for_ (.nm 1) (.lst (.cons (.int 2147483647) (.cons (.int 2147483629) (.cons (.int 2147483587) .nil))))
  (.seq (.asg (.nm 4) (.bin .Mod (.bin .Add (.bin .Mult (.var 2) (.int 48271)) (.bin .FloorDiv (.var 1) (.int 11))) (.var 1)))
  (.seq (.forC (.nm 5) (.var 0)
  (.seq (.asg (.nm 4) (.bin .Mod (.bin .Add (.bin .Add (.bin .Mult (.var 4) (.int 69621)) (.blt .int (.var 5))) (.var 2)) (.var 1)))
  .pass))
  (.seq (.asg (.nm 3) (.bin .Add (.bin .Mult (.var 3) (.int 2147483659)) (.bin .Mod (.bin .Pow (.var 4) (.int 5)) (.var 1))))
  .pass))))
  (.seq (.ret (.var 3))
  .pass))))
def cTake (f : Nat) : Sx := (.seq (.ife (.cmp .Eq (.dgi (.var 0) "rest") (.int 0))
  (.seq (.dset (.var 0) "rest" (.ife (.dne (.var 0)) (.dpop (.var 0)) (.call f (.cons (.var 0) .nil))))
  .pass)
  .pass)
  (.seq (.asg (.nm 2) (.bin .Mod (.blt .int (.dgi (.var 0) "rest")) (.var 1)))
  (.seq (.dset (.var 0) "rest" (.bin .FloorDiv (.blt .int (.dgi (.var 0) "rest")) (.var 1)))
  (.seq (.ret (.var 2))
  .pass))))
section
variable {P : Prg} {cl : Cl} {fu : Nat}
@[simp] theorem get_turn {s : Dr} : s.get "turn" = some (.int s.turn) := rfl
@[simp] theorem get_rest {s : Dr} : s.get "rest" = some (.int s.rest) := rfl
@[simp] theorem put_turn {s : Dr} {i : Int} : s.put "turn" (.int i) = some { s with turn := i } := rfl
@[simp] theorem put_rest {s : Dr} {i : Int} : s.put "rest" (.int i) = some { s with rest := i } := rfl
theorem op_add {i j : Int} : opD .Add (.int i) (.int j) = some (.int (i + j)) := rfl
theorem op_multR {i j : Int} (h : -(2 ^ 64) < j ∧ j < 2 ^ 64) : opD .Mult (.int i) (.int j) = some (.int (i * j)) := by
  simp only [opD]; rw [if_pos (.inr h)]
theorem op_modP {i j : Int} (h : 0 < j) : opD .Mod (.int i) (.int j) = some (.int (i % j)) := by
  simp only [opD]; rw [if_pos h]
theorem op_fdivP {i j : Int} (h : 0 < j ∧ j < 1073741824) : opD .FloorDiv (.int i) (.int j) = some (.int (i / j)) := by
  simp only [opD]; rw [if_pos h]
theorem op_powP {i j : Int} (h : 0 ≤ j ∧ j ≤ 1000000 ∧ i.natAbs < 2 ^ 64) : opD .Pow (.int i) (.int j) = some (.int (i ^ j.toNat)) := by
  simp only [opD]; rw [if_pos h]
/-- the inner loop -/
theorem mix_cells {g t f : Int} (hg : 0 < g) : ∀ (cells : List Int) (b : Int) (x : Option D) (s : Dr), 0 ≤ b ∧ b < g → ∃ b' x', (0 ≤ b' ∧ b' < g) ∧
    loopF (.nm 5) (evS P cl fu (.seq (.asg (.nm 4) (.bin .Mod (.bin .Add (.bin .Add (.bin .Mult (.var 4) (.int 69621)) (.blt .int (.var 5))) (.var 2)) (.var 1))) .pass)) (cells.map .int) ⟨[some .drw, some (.int g), some (.int t), some (.int f), some (.int b), x], [], []⟩ s =
      .ok (.nx ⟨[some .drw, some (.int g), some (.int t), some (.int f), some (.int b'), x'], [], []⟩) s
  | [], b, x, s, h => ⟨b, x, h, rfl⟩
  | c :: cells, b, x, s, h => by
    obtain ⟨b', x', h1, h2⟩ := mix_cells (t := t) (f := f) hg cells ((b * 69621 + c + t) % g) (some (.int c)) s ⟨Int.emod_nonneg _ (by omega), Int.emod_lt_of_pos _ hg⟩
    refine ⟨b', x', h1, ?_⟩
    rw [← h2, List.map_cons, loopF]
    simp only [puts_nm, evS, ev, mask_nil, List.set_cons_succ, List.set_cons_zero, List.getElem?_cons_succ, List.getElem?_cons_zero, R.bind_ok, ofO, bltD, op_add, op_multR (show -(2 ^ 64) < (69621 : Int) ∧ (69621 : Int) < 2 ^ 64 by decide), op_modP hg, keep_nil]
/-- one great number -/
theorem mix_one {g t f : Int} (hg : 0 < g ∧ g < 2 ^ 64) {b x : Option D} {s : Dr} : ∃ f' b' x', evS P cl fu (.seq (.asg (.nm 4) (.bin .Mod (.bin .Add (.bin .Mult (.var 2) (.int 48271)) (.bin .FloorDiv (.var 1) (.int 11))) (.var 1)))
  (.seq (.forC (.nm 5) (.var 0)
  (.seq (.asg (.nm 4) (.bin .Mod (.bin .Add (.bin .Add (.bin .Mult (.var 4) (.int 69621)) (.blt .int (.var 5))) (.var 2)) (.var 1)))
  .pass))
  (.seq (.asg (.nm 3) (.bin .Add (.bin .Mult (.var 3) (.int 2147483659)) (.bin .Mod (.bin .Pow (.var 4) (.int 5)) (.var 1))))
  .pass))) ⟨[some .drw, some (.int g), some (.int t), some (.int f), b, x], [], []⟩ s = .ok (.nx ⟨[some .drw, some (.int g), some (.int t), some (.int f'), b', x'], [], []⟩) s := by
  have h0 : 0 ≤ (t * 48271 + g / 11) % g ∧ (t * 48271 + g / 11) % g < g := ⟨Int.emod_nonneg _ (by omega), Int.emod_lt_of_pos _ hg.1⟩
  obtain ⟨b', x', h1, h2⟩ := mix_cells (P := P) (cl := cl) (fu := fu) (t := t) (f := f) hg.1 s.cells _ x s h0
  refine ⟨f * 2147483659 + b' ^ (5 : Int).toNat % g, some (.int b'), x', ?_⟩
  rw [evS_seq (z' := ⟨[some .drw, some (.int g), some (.int t), some (.int f), some (.int ((t * 48271 + g / 11) % g)), x], [], []⟩) (s' := s)]
  · rw [evS_seq (z' := ⟨[some .drw, some (.int g), some (.int t), some (.int f), some (.int b'), x'], [], []⟩) (s' := s)]
    · simp only [puts_nm, evS, ev, mask_nil, List.set_cons_succ, List.set_cons_zero, List.getElem?_cons_succ, List.getElem?_cons_zero, R.bind_ok, ofO, bltD, op_add, op_multR (show -(2 ^ 64) < (2147483659 : Int) ∧ (2147483659 : Int) < 2 ^ 64 by decide), op_modP hg.1, keep_nil, op_powP (i := b') (j := 5) ⟨by decide, by decide, by omega⟩]
    · simp only [evS, ev, mask_nil, List.getElem?_cons_zero, R.bind_ok, keep_nil]
      exact h2
  · simp only [puts_nm, evS, ev, mask_nil, List.set_cons_succ, List.set_cons_zero, List.getElem?_cons_succ, List.getElem?_cons_zero, R.bind_ok, ofO, bltD, op_add, op_multR (show -(2 ^ 64) < (48271 : Int) ∧ (48271 : Int) < 2 ^ 64 by decide), op_modP hg.1, keep_nil, op_fdivP (i := g) (j := 11) ⟨by decide, by decide⟩]
def nMixed : List Str := ["draw", "great", "turn", "found", "blend", "cell"]
theorem mixed_ok (s : Dr) : ∃ i s', runF P cl fu nMixed cMixed [.drw] s = .ok (.int i) s' := by
  obtain ⟨f1, b1, x1, e1⟩ := mix_one (P := P) (cl := cl) (fu := fu) (g := 2147483647) (t := s.turn + 1) (f := 0) (by decide) (b := none) (x := none) (s := { s with turn := s.turn + 1 })
  obtain ⟨f2, b2, x2, e2⟩ := mix_one (P := P) (cl := cl) (fu := fu) (g := 2147483629) (t := s.turn + 1) (f := f1) (by decide) (b := b1) (x := x1) (s := { s with turn := s.turn + 1 })
  obtain ⟨f3, b3, x3, e3⟩ := mix_one (P := P) (cl := cl) (fu := fu) (g := 2147483587) (t := s.turn + 1) (f := f2) (by decide) (b := b2) (x := x2) (s := { s with turn := s.turn + 1 })
  refine ⟨f3, { s with turn := s.turn + 1 }, ?_⟩
  unfold runF cMixed
  rw [evS_seq (z' := ⟨[some .drw, none, none, none, none, none], [], []⟩) (s' := { s with turn := s.turn + 1 })]
  · rw [evS_seq (z' := ⟨[some .drw, none, some (.int (s.turn + 1)), some (.int 0), none, none], [], []⟩) (s' := { s with turn := s.turn + 1 })]
    · rw [evS_seq (z' := ⟨[some .drw, some (.int 2147483587), some (.int (s.turn + 1)), some (.int f3), b3, x3], [], []⟩) (s' := { s with turn := s.turn + 1 })]
      · simp only [evS, ev, mask_nil, List.getElem?_cons_succ, List.getElem?_cons_zero, R.bind_ok, endF]
      · rw [evS]
        simp only [evI, ev, evL, mask_nil, R.bind_ok, R.lim, List.length_cons, List.length_nil, items, ofO, keep_nil]
        rw [if_pos (by decide)]
        simp only [R.bind_ok, loopF, puts_nm, List.set_cons_succ, List.set_cons_zero, e1, e2, e3]
    · simp [evS, ev, Z.store, Z.set, ofO, bltD]
  · simp [evS, ev, z0, nMixed, ofO, op_add]
/-- what all draws are: a number below the amount -/
abbrev TakeOk (cl : Cl) (f : Nat) : Prop := ∀ (a : Int) (s : Dr), 0 < a → a < 1073741824 → ∃ r s', cl.call f [.drw, .int a] s = .ok (.int r) s' ∧ 0 ≤ r ∧ r < a
def nTake : List Str := ["draw", "amount", "found"]
theorem take_ok {f : Nat} (hm : ∀ s, ∃ i s', cl.call f [.drw] s = .ok (.int i) s') (a : Int) (s : Dr) (h1 : 0 < a) (h2 : a < 1073741824) : ∃ r s', runF P cl fu nTake (cTake f) [.drw, .int a] s = .ok (.int r) s' ∧ 0 ≤ r ∧ r < a := by
  have key : ∃ s1, evS P cl fu (.ife (.cmp .Eq (.dgi (.var 0) "rest") (.int 0)) (.seq (.dset (.var 0) "rest" (.ife (.dne (.var 0)) (.dpop (.var 0)) (.call f (.cons (.var 0) .nil)))) .pass) .pass) ⟨[some .drw, some (.int a), none], [], []⟩ s = .ok (.nx ⟨[some .drw, some (.int a), none], [], []⟩) s1 := by
    by_cases hr : s.rest = 0
    · cases hl : s.large with
      | cons x l => refine ⟨{ s with large := l, rest := x }, ?_⟩; simp [evS, evB, ev, ofO, cmpR, cmpD, pyEq, D.pyS, D.toPy, PyData.depth, PyData.eqv, D.truth, hr, hl]
      | nil =>
        obtain ⟨i, s', e⟩ := hm s
        refine ⟨{ s' with rest := i }, ?_⟩
        simp [evS, evB, ev, evL, ofO, cmpR, cmpD, pyEq, D.pyS, D.toPy, PyData.depth, PyData.eqv, D.truth, hr, hl, e]
    · refine ⟨s, ?_⟩
      simp [evS, evB, ev, ofO, cmpR, cmpD, pyEq, D.pyS, D.toPy, PyData.depth, PyData.eqv, D.truth, hr]
  obtain ⟨s1, e⟩ := key
  refine ⟨s1.rest % a, { s1 with rest := s1.rest / a }, ?_, Int.emod_nonneg _ (by omega), Int.emod_lt_of_pos _ h1⟩
  unfold runF cTake
  have ez : z0 nTake ([D.drw, D.int a].map some) = ⟨[some .drw, some (.int a), none], [], []⟩ := rfl
  rw [ez, evS_seq e]
  simp [evS, ev, ofO, bltD, op_modP h1, op_fdivP (i := s1.rest) ⟨h1, h2⟩, endF]
end
end Ah

/-! ## AhPm -/
set_option Elab.async false
set_option linter.all false
set_option maxRecDepth 100000
set_option maxHeartbeats 4000000
/-! Ah: plain words of pick, shuffled, kinds, says. -/
namespace Ah
open PySem PySem.Spec PyProof.Rows L2
/-- data that == takes, to some depth -/
def PyG (d : D) (k : Nat) : Prop := ∃ p, d.toPy = some p ∧ p.canLay0 = true ∧ p.depth ≤ k
theorem PyG.mono {d : D} {j k : Nat} (h : PyG d j) (hk : j ≤ k) : PyG d k := let ⟨p, h1, h2, h3⟩ := h; ⟨p, h1, h2, Nat.le_trans h3 hk⟩
theorem PyG.non {k : Nat} : PyG .non k := ⟨_, rfl, rfl, Nat.zero_le _⟩
theorem PyG.bl {b : Bool} {k : Nat} : PyG (.bl b) k := ⟨_, rfl, rfl, Nat.zero_le _⟩
theorem PyG.int {i : Int} {k : Nat} : PyG (.int i) k := ⟨_, rfl, rfl, Nat.zero_le _⟩
theorem PyG.str {s : Str} {k : Nat} (h : sOk s = true) : PyG (.str s) k := ⟨_, rfl, sOk_str h, Nat.zero_le _⟩
theorem pygL {k : Nat} : ∀ {ds : List D}, (∀ d ∈ ds, PyG d k) → ∃ ps, D.toPyL ds = some ps ∧ PyData.canLayAll0 ps = true ∧ PyData.depthAll ps ≤ k ∧ ps.length = ds.length
  | [], _ => ⟨[], rfl, rfl, Nat.zero_le _, rfl⟩
  | d :: ds, h => by
    obtain ⟨p, h1, h2, h3⟩ := h d List.mem_cons_self
    obtain ⟨ps, e1, e2, e3, e4⟩ := pygL (fun x hx => h x (List.mem_cons_of_mem _ hx))
    refine ⟨p :: ps, by simp only [D.toPyL, h1, e1], ?_, ?_, by simp [e4]⟩
    · show (PyData.canLay0 p && PyData.canLayAll0 ps) = true
      rw [h2, e2]; rfl
    · simp only [PyData.depthAll]; omega
theorem PyG.lst {ds : List D} {k : Nat} (h : ∀ d ∈ ds, PyG d k) : PyG (.lst ds) (k + 1) := by
  obtain ⟨ps, e1, e2, e3, _⟩ := pygL h
  exact ⟨.list ps, by simp only [D.toPy, e1], e2, by simp only [PyData.depth]; omega⟩
theorem PyG.tup {ds : List D} {k : Nat} (h : ∀ d ∈ ds, PyG d k) : PyG (.tup ds) (k + 1) := by
  obtain ⟨ps, e1, e2, e3, _⟩ := pygL h
  exact ⟨.tuple ps, by simp only [D.toPy, e1], e2, by simp only [PyData.depth]; omega⟩
theorem PyG.strs {ss : List Str} {k : Nat} (h : ∀ s ∈ ss, sOk s = true) : ∀ d ∈ ss.map D.str, PyG d k := fun d hd => by
  obtain ⟨s, hs, rfl⟩ := List.mem_map.mp hd
  exact .str (h s hs)
theorem PyG.eq {d : D} {k : Nat} (h : PyG d k) (hk : k ≤ 60) : pyEq d d = some true := by
  obtain ⟨p, h1, h2, h3⟩ := h
  have e : d.pyS = some p := by unfold D.pyS; rw [h1]; exact if_pos (by omega)
  unfold pyEq
  rw [e]
  exact congrArg some (PySem.SeqAt.eqv_refl p h2)
theorem pys_lst {ds : List D} {k : Nat} (h : ∀ d ∈ ds, PyG d k) (hk : k + 1 ≤ 60) : ∃ ps, (D.lst ds).pyS = some (.list ps) ∧ ps.length = ds.length := by
  obtain ⟨ps, e1, e2, e3, e4⟩ := pygL h
  refine ⟨ps, ?_, e4⟩
  unfold D.pyS
  simp only [D.toPy, e1]
  exact if_pos (by simp only [PyData.depth]; omega)
section
variable {P : Prg} {cl : Cl} {fu : Nat}
/-- left != [] -/
theorem cmp_nil {ds : List D} {k : Nat} {s : Dr} (h : ∀ d ∈ ds, PyG d k) (hk : k + 1 ≤ 60) : cmpR P cl .NotEq (.lst ds) (.lst []) s = .ok (.bl (!ds.isEmpty)) s := by
  obtain ⟨ps, e1, e2⟩ := pys_lst h hk
  have hi : isIns (.lst ds) = false := by
    unfold isIns
    split
    · rename_i e; cases e
    · rename_i e
      cases e
      obtain ⟨p, z, _⟩ := h _ List.mem_cons_self
      cases z
    · rfl
  rw [cmpR_of hi]
  have e0 : (D.lst []).pyS = some (.list []) := rfl
  simp only [cmpD, pyEq, e1, e0]
  have : PyData.eqv (.list ps) (.list []) = ds.isEmpty := by
    cases ps <;> cases ds <;> first | rfl | (simp at e2; done)
  rw [this]; rfl
/-! ### pick, shuffled -/
def nPick : List Str := ["draw", "some"]
def cPick (f : Nat) : Sx := (.seq (.ret (.idx (.var 1) (.call f (.cons (.var 0) (.cons (.blt .len (.var 1)) .nil))))) .pass)
theorem atI_lt {α : Type} {xs : List α} {r : Int} (h0 : 0 ≤ r) (h1 : r < xs.length) : ∃ d, atI xs r = some d ∧ d ∈ xs ∧ xs[r.toNat]? = some d := by
  have hlt : r.toNat < xs.length := by omega
  refine ⟨xs[r.toNat], ?_, List.getElem_mem _, List.getElem?_eq_getElem hlt⟩
  unfold atI ixN
  rw [if_pos h0, if_pos h1]
  simp [hlt]
theorem pick_ok {f : Nat} (ht : TakeOk cl f) {xs : List D} (h0 : xs ≠ []) (h1 : xs.length < 1073741824) (s : Dr) : ∃ d ∈ xs, ∃ s', runF P cl fu nPick (cPick f) [.drw, .lst xs] s = .ok d s' := by
  have hp : 0 < xs.length := (by cases xs with | nil => exact absurd rfl h0 | cons a l => simp)
  obtain ⟨r, s', e, r0, r1⟩ := ht xs.length s (by omega) (by omega)
  obtain ⟨d, e1, hd, _⟩ := atI_lt r0 r1
  refine ⟨d, hd, s', ?_⟩
  unfold runF cPick
  have ez : z0 nPick ([D.drw, D.lst xs].map some) = ⟨[some .drw, some (.lst xs)], [], []⟩ := rfl
  rw [ez]
  simp [evS, ev, evL, bltD, ofO, e, idxD, e1, endF]
def nShuf : List Str := ["draw", "some", "left", "found"]
def cShuf (f : Nat) : Sx := (.seq (.par 2 3 true true (.blt .list (.var 1)) (.lst .nil))
  (.seq (.whl (.cmp .NotEq (.var 2) (.lst .nil))
  (.seq (.appPop 3 2 (.call f (.cons (.var 0) (.cons (.blt .len (.var 2)) .nil))))
  .pass))
  (.seq (.ret (.var 3))
  .pass)))
theorem perm_erase {α : Type} : ∀ (l : List α) (i : Nat) (h : i < l.length), (l[i] :: l.eraseIdx i).Perm l
  | a :: l, 0, h => List.Perm.refl _
  | a :: l, i + 1, h => by
    simp only [List.getElem_cons_succ, List.eraseIdx_cons_succ]
    exact (List.Perm.swap a _ _).trans ((perm_erase l i (by simpa using h)).cons a)
theorem shuf_loop {f k : Nat} {x1 : Option D} (ht : TakeOk cl f) (hk : k + 1 ≤ 60) : ∀ (n : Nat) (left found : List D) (s : Dr), left.length < n → (∀ d ∈ left, PyG d k) → left.length + found.length < LIM →
    ∃ ys s', ys.Perm (found ++ left) ∧ whileF (fun z s => evB P cl (.cmp .NotEq (.var 2) (.lst .nil)) z.env s) (evS P cl fu (.seq (.appPop 3 2 (.call f (.cons (.var 0) (.cons (.blt .len (.var 2)) .nil)))) .pass)) n
      ⟨[some .drw, x1, some (.lst left), some (.lst found)], [3, 2], []⟩ s = .ok (.nx ⟨[some .drw, x1, some (.lst []), some (.lst ys)], [3, 2], []⟩) s'
  | 0, left, found, s, hn, _, _ => by omega
  | n + 1, left, found, s, hn, hl, hm => by
    have ec : evB P cl (.cmp .NotEq (.var 2) (.lst .nil)) [some .drw, x1, some (.lst left), some (.lst found)] s = .ok (!left.isEmpty) s := by
      simp [evB, ev, evL, R.lim, cmp_nil hl hk, ofO, D.truth]
    rw [whileF]
    simp only [ec, R.bind_ok]
    cases left with
    | nil => exact ⟨found, s, by simp, by simp⟩
    | cons a l =>
      have hp : 0 < (a :: l).length := by simp
      have hlm : (a :: l).length < 1073741824 := by unfold LIM at hm; omega
      obtain ⟨r, s1, e, r0, r1⟩ := ht (a :: l).length s (by omega) (by omega)
      obtain ⟨d, e1, hd, e2⟩ := atI_lt r0 r1
      have hr : r.toNat < (a :: l).length := by omega
      have le : ((a :: l).eraseIdx r.toNat).length + 1 = (a :: l).length := by rw [List.length_eraseIdx_of_lt hr]; omega
      obtain ⟨ys, s2, p1, e3⟩ := shuf_loop (x1 := x1) ht hk n ((a :: l).eraseIdx r.toNat) (found ++ [d]) s1 (by omega) (fun x hx => hl x (List.mem_of_mem_eraseIdx hx)) (by rw [List.length_append, List.length_singleton]; omega)
      refine ⟨ys, s2, ?_, ?_⟩
      · refine p1.trans ?_
        rw [List.append_assoc]
        refine List.Perm.append_left _ ?_
        have hd2 : d = (a :: l)[r.toNat] := by rw [List.getElem?_eq_getElem hr] at e2; exact (Option.some.inj e2).symm
        rw [hd2]
        exact perm_erase _ _ hr
      · have body : evS P cl fu (.seq (.appPop 3 2 (.call f (.cons (.var 0) (.cons (.blt .len (.var 2)) .nil)))) .pass) ⟨[some .drw, x1, some (.lst (a :: l)), some (.lst found)], [3, 2], []⟩ s = .ok (.nx ⟨[some .drw, x1, some (.lst ((a :: l).eraseIdx r.toNat)), some (.lst (found ++ [d]))], [3, 2], []⟩) s1 := by
          have e' : cl.call f [.drw, .int ((l.length : Int) + 1)] s = .ok (.int r) s1 := by rw [← e]; simp
          simp only [evS, Z.at, List.mem_cons, List.getElem?_cons_succ, List.getElem?_cons_zero, ev, evL, R.bind_ok, bltD, ofO]
          simp only [show ((3 : Nat) = 3 ∨ (3 : Nat) = 2 ∨ (3 : Nat) ∈ ([] : List Nat)) = True from eq_true (.inl rfl), show ((2 : Nat) = 3 ∨ (2 : Nat) = 2 ∨ (2 : Nat) ∈ ([] : List Nat)) = True from eq_true (.inr (.inl rfl)), true_or, or_true, if_true, R.bind_ok, e, e2]
          have hcc : (0 ≤ r ∧ (3 : Nat) ≠ 2 ∧ found.length < LIM) := ⟨r0, by decide, by omega⟩
          rw [if_pos hcc]
          rfl
        simp only [List.isEmpty_cons, Bool.not_false, if_true, body, R.bind_ok]
        exact e3
theorem shuf_ok {f k : Nat} {xs : List D} (ht : TakeOk cl f) (hk : k + 1 ≤ 60) (hx : ∀ d ∈ xs, PyG d k) (h1 : xs.length < fu) (h2 : xs.length < LIM) (s : Dr) : ∃ ys s', ys.Perm xs ∧ runF P cl fu nShuf (cShuf f) [.drw, .lst xs] s = .ok (.lst ys) s' := by
  obtain ⟨ys, s', p, e⟩ := shuf_loop (P := P) (fu := fu) (x1 := some (.lst xs)) ht hk fu xs [] s h1 hx (by simpa using h2)
  refine ⟨ys, s', by simpa using p, ?_⟩
  unfold runF cShuf
  have ez : z0 nShuf ([D.drw, D.lst xs].map some) = ⟨[some .drw, some (.lst xs), none, none], [], []⟩ := rfl
  rw [ez, evS_seq (z' := ⟨[some .drw, some (.lst xs), some (.lst xs), some (.lst [])], [3, 2], []⟩) (s' := s)]
  · rw [evS_seq (z' := ⟨[some .drw, some (.lst xs), some (.lst []), some (.lst ys)], [3, 2], []⟩) (s' := s')]
    · simp [evS, ev, endF]
    · rw [evS]; exact e
  · simp [evS, ev, evL, bltD, ofO, R.lim, D.isL, Z.store, Z.setO]
end
end Ah

/-! ## AhPk -/
set_option Elab.async false
set_option linter.all false
set_option maxRecDepth 100000
set_option maxHeartbeats 4000000
/-! Ah: plain words of kinds and says: of like data it says True. -/
namespace Ah
open PySem PySem.Spec PyProof.Rows L2
mutual
def D.nds : D → Nat
  | .tup ds => D.ndsL ds + 1
  | .lst ds => D.ndsL ds + 1
  | _ => 1
def D.ndsL : List D → Nat
  | [] => 0
  | d :: ds => D.nds d + D.ndsL ds
end
theorem nds_app : ∀ (a b : List D), D.ndsL (a ++ b) = D.ndsL a + D.ndsL b
  | [], b => by simp [D.ndsL]
  | d :: a, b => by simp only [List.cons_append, D.ndsL, nds_app a b]; omega
theorem nds_len : ∀ a : List D, a.length ≤ D.ndsL a
  | [] => Nat.le_refl _
  | d :: a => by
    have h1 : 1 ≤ d.nds := by cases d <;> simp [D.nds]
    have := nds_len a
    simp only [List.length_cons, D.ndsL]; omega
def nKinds : List Str := ["thing", "found", "line", "here", "kind", "named", "key", "name"]
def cKB : Sx := (.seq (.pop 3 2)
  (.seq (.asg (.nm 4) (.ife (.isi (.var 3) [(.bi "tuple")]) (.str "tuple") (.ife (.isi (.var 3) [(.bi "list")]) (.str "list") (.ife (.isi (.var 3) [(.bi "dict")]) (.str "dict") (.ife (.isi (.var 3) [(.bi "bool")]) (.str "bool") (.str "other"))))))
  (.seq (.app 1 (.var 4))
  (.seq (.ife (.cmp .In (.var 4) (.lst (.cons (.str "tuple") (.cons (.str "list") .nil))))
  (.seq (.own 2 (.bin .Add (.var 2) (.blt .list (.var 3))))
  .pass)
  .pass)
  (.seq (.ife (.cmp .Eq (.var 4) (.str "dict"))
  (.seq (.asg (.nm 5) .nil)
  (.seq (.own 2 (.bin .Add (.bin .Add (.var 2) (.comp [("name", 7)] (.idx (.var 5) (.var 7)) (.nm 7) .nil .nop)) (.comp [("name", 7)] (.idx (.var 3) (.idx (.var 5) (.var 7))) (.nm 7) .nil .nop)))
  .pass))
  .pass)
  .pass)))))
def cKinds : Sx := (.seq (.par 1 2 true true (.lst .nil) (.lst (.cons (.var 0) .nil)))
  (.seq (.whl (.cmp .NotEq (.var 2) (.lst .nil)) cKB)
  (.seq (.ret (.var 1))
  .pass)))
/-- what isinstance tells of the built-in types -/
def IsiOk (P : Prg) : Prop := ∀ t ∈ (["NoneType", "bool", "int", "str", "tuple", "list"] : List String), ∀ c ∈ (["bool", "int", "str", "tuple", "list", "dict"] : List String), P.isi (.bi t) (.bi c) = some (decide (t = c) || (decide (t = "bool") && decide (c = "int")))
def kindOf : D → Str
  | .tup _ => "tuple" | .lst _ => "list" | .bl _ => "bool" | _ => "other"
def subs : D → List D
  | .tup ds => ds | .lst ds => ds | _ => []
theorem nds_subs {d : D} : D.ndsL (subs d) + 1 = d.nds := by cases d <;> rfl
theorem pyg_subs {d : D} {k : Nat} (h : PyG d k) : ∀ x ∈ subs d, PyG x k := by
  have key : ∀ {ds : List D} {ps : List PyData}, D.toPyL ds = some ps → PyData.canLayAll0 ps = true → PyData.depthAll ps ≤ k → ∀ x ∈ ds, PyG x k := by
    intro ds
    induction ds with
    | nil => intro ps _ _ _ x hx; cases hx
    | cons d ds ih =>
      intro ps h1 h2 h3 x hx
      simp only [D.toPyL] at h1
      split at h1
      · rename_i p l e1 e2
        cases h1
        have h2 : (PyData.canLay0 p && PyData.canLayAll0 l) = true := h2
        rw [Bool.and_eq_true] at h2
        simp only [PyData.depthAll] at h3
        rcases List.mem_cons.mp hx with rfl | hx
        · exact ⟨p, e1, h2.1, by omega⟩
        · exact ih e2 h2.2 (by omega) x hx
      · cases h1
  obtain ⟨p, h1, h2, h3⟩ := h
  cases d <;> simp only [subs] <;> try (intro x hx; cases hx; done)
  all_goals
    simp only [D.toPy] at h1
    split at h1
    · rename_i l e
      cases h1
      simp only [PyData.depth] at h3
      exact key e h2 (by omega)
    · cases h1
section
variable {P : Prg} {cl : Cl} {fu : Nat}
theorem in_t : cmpD .In (.str "tuple") (.lst [.str "tuple", .str "list"]) = some true := by decide +kernel
theorem in_l : cmpD .In (.str "list") (.lst [.str "tuple", .str "list"]) = some true := by decide +kernel
theorem in_b : cmpD .In (.str "bool") (.lst [.str "tuple", .str "list"]) = some false := by decide +kernel
theorem in_o : cmpD .In (.str "other") (.lst [.str "tuple", .str "list"]) = some false := by decide +kernel
theorem eq_t : cmpD .Eq (.str "tuple") (.str "dict") = some false := by decide +kernel
theorem eq_l : cmpD .Eq (.str "list") (.str "dict") = some false := by decide +kernel
theorem eq_b : cmpD .Eq (.str "bool") (.str "dict") = some false := by decide +kernel
theorem eq_o : cmpD .Eq (.str "other") (.str "dict") = some false := by decide +kernel
abbrev zK (th : Option D) (found : List Str) (line : List D) (a b : Option D) : Z := ⟨[th, some (.lst (found.map .str)), some (.lst line), a, b, none, none, none], [2, 1], []⟩
theorem kind_body (hi : IsiOk P) {th a b : Option D} {found : List Str} {l : List D} {d : D} {k : Nat} {s : Dr} (hd : PyG d k) (hf : found.length < LIM) (hl : l.length + (subs d).length ≤ LIM) :
    evS P cl fu cKB (zK th found (l ++ [d]) a b) s = .ok (.nx (zK th (found ++ [kindOf d]) (l ++ subs d) (some d) (some (.str (kindOf d))))) s := by
  unfold cKB
  have e1 : evS P cl fu (.pop 3 2) (zK th found (l ++ [d]) a b) s = .ok (.nx ⟨[th, some (.lst (found.map .str)), some (.lst l), some d, b, none, none, none], [2, 1], []⟩) s := by
    simp [evS, Z.at, Z.upd, Z.set]
  rw [evS_seq e1]
  have ht : ∃ t, t ∈ (["NoneType", "bool", "int", "str", "tuple", "list"] : List String) ∧ d.ty = some (.bi t) ∧ kindOf d = (if t = "tuple" then ("tuple" : Str) else if t = "list" then "list" else if t = "bool" then "bool" else "other") := by
    obtain ⟨p, h1, _⟩ := hd
    cases d <;> first | (cases h1; done) | exact ⟨_, by simp, rfl, rfl⟩
  obtain ⟨t, ht1, ht2, ht3⟩ := ht
  have em : ∀ vs : List Nat, (∀ v ∈ vs, v = 3) → mask (⟨[th, some (.lst (found.map .str)), some (.lst l), some d, b, none, none, none], [2, 1], []⟩ : Z) vs = [th, none, none, some d, b, none, none, none] := by
    intro vs hv
    have n1 : (1 : Nat) ∉ vs := fun z => absurd (hv 1 z) (by decide)
    have n2 : (2 : Nat) ∉ vs := fun z => absurd (hv 2 z) (by decide)
    simp [mask, maskF, n1, n2]
  have e2 : evS P cl fu (.asg (.nm 4) (.ife (.isi (.var 3) [(.bi "tuple")]) (.str "tuple") (.ife (.isi (.var 3) [(.bi "list")]) (.str "list") (.ife (.isi (.var 3) [(.bi "dict")]) (.str "dict") (.ife (.isi (.var 3) [(.bi "bool")]) (.str "bool") (.str "other")))))) ⟨[th, some (.lst (found.map .str)), some (.lst l), some d, b, none, none, none], [2, 1], []⟩ s = .ok (.nx ⟨[th, some (.lst (found.map .str)), some (.lst l), some d, some (.str (kindOf d)), none, none, none], [2, 1], []⟩) s := by
    rw [evS, em _ (by simp [vars])]
    have ev1 : ev P cl (.ife (.isi (.var 3) [(.bi "tuple")]) (.str "tuple") (.ife (.isi (.var 3) [(.bi "list")]) (.str "list") (.ife (.isi (.var 3) [(.bi "dict")]) (.str "dict") (.ife (.isi (.var 3) [(.bi "bool")]) (.str "bool") (.str "other"))))) [th, none, none, some d, b, none, none, none] s = .ok (.str (kindOf d)) s := by
      have i1 := hi t ht1 "tuple" (by simp)
      have i2 := hi t ht1 "list" (by simp)
      have i3 := hi t ht1 "dict" (by simp)
      have i4 := hi t ht1 "bool" (by simp)
      rw [ht3]
      simp only [List.mem_cons, List.not_mem_nil, or_false] at ht1
      rcases ht1 with rfl | rfl | rfl | rfl | rfl | rfl <;> simp [ev, ht2, isiL, i1, i2, i3, i4, ofO, D.truth]
    rw [ev1]
    simp [Z.keep, D.imm, Z.puts, Tg.put, Tg.ixs]
  rw [evS_seq e2]
  have e3 : evS P cl fu (.app 1 (.var 4)) ⟨[th, some (.lst (found.map .str)), some (.lst l), some d, some (.str (kindOf d)), none, none, none], [2, 1], []⟩ s = .ok (.nx ⟨[th, some (.lst ((found ++ [kindOf d]).map .str)), some (.lst l), some d, some (.str (kindOf d)), none, none, none], [2, 1], []⟩) s := by
    simp [evS, mask, maskF, vars, ev, Z.keep, D.imm, Z.at, Z.upd, hf]
  rw [evS_seq e3]
  have e4 : evS P cl fu (.ife (.cmp .In (.var 4) (.lst (.cons (.str "tuple") (.cons (.str "list") .nil)))) (.seq (.own 2 (.bin .Add (.var 2) (.blt .list (.var 3)))) .pass) .pass) ⟨[th, some (.lst ((found ++ [kindOf d]).map .str)), some (.lst l), some d, some (.str (kindOf d)), none, none, none], [2, 1], []⟩ s = .ok (.nx ⟨[th, some (.lst ((found ++ [kindOf d]).map .str)), some (.lst (l ++ subs d)), some d, some (.str (kindOf d)), none, none, none], [2, 1], []⟩) s := by
    have key : (kindOf d = "tuple" ∨ kindOf d = "list") ∨ (kindOf d = "bool" ∨ kindOf d = "other") := by cases d <;> simp [kindOf]
    have lstep : ∀ xs, bltD .list d = some (.lst xs) → xs = subs d → evS P cl fu (.seq (.own 2 (.bin .Add (.var 2) (.blt .list (.var 3)))) .pass) ⟨[th, some (.lst ((found ++ [kindOf d]).map .str)), some (.lst l), some d, some (.str (kindOf d)), none, none, none], [2, 1], []⟩ s = .ok (.nx ⟨[th, some (.lst ((found ++ [kindOf d]).map .str)), some (.lst (l ++ subs d)), some d, some (.str (kindOf d)), none, none, none], [2, 1], []⟩) s := by
      intro xs hx ex
      subst ex
      have ea : opD .Add (.lst l) (.lst (subs d)) = some (.lst (l ++ subs d)) := by simp only [opD]; rw [if_pos hl]
      have em2 : mask (⟨[th, some (.lst ((found ++ [kindOf d]).map .str)), some (.lst l), some d, some (.str (kindOf d)), none, none, none], [2, 1], []⟩ : Z) (vars (.bin .Add (.var 2) (.blt .list (.var 3)))) = [th, none, some (.lst l), some d, some (.str (kindOf d)), none, none, none] := by simp [mask, maskF, vars]
      rw [evS, evS, em2]
      simp only [ev, List.getElem?_cons_succ, List.getElem?_cons_zero, R.bind_ok, ofO, hx, ea, Z.store, if_true]
      generalize D.immO true (.lst (l ++ subs d)) = q
      cases q <;> simp [Z.keep, freeze, vars, Z.setO, evS]
    rw [evS]
    have ci : ∀ q : Bool, cmpD .In (.str (kindOf d)) (.lst [.str "tuple", .str "list"]) = some q → evB P cl (.cmp .In (.var 4) (.lst (.cons (.str "tuple") (.cons (.str "list") .nil)))) [th, some (.lst ((found ++ [kindOf d]).map .str)), some (.lst l), some d, some (.str (kindOf d)), none, none, none] s = .ok q s := by
      intro q hq
      have hcm : cmpR P cl .In (.str (kindOf d)) (.lst [.str "tuple", .str "list"]) s = .ok (.bl q) s := by rw [cmpR_of rfl, hq]; rfl
      have hlm : (0 + 1 + 1 : Nat) ≤ LIM := by decide
      simp [evB, ev, evL, R.lim, hcm, ofO, D.truth, hlm]
    cases d with
    | tup ds =>
      rw [ci true in_t]
      exact lstep _ rfl rfl
    | lst ds =>
      rw [ci true in_l]
      exact lstep _ rfl rfl
    | non => rw [ci false in_o]; simp [evS, subs]
    | bl b => rw [ci false in_b]; simp [evS, subs]
    | int i => rw [ci false in_o]; simp [evS, subs]
    | str x => rw [ci false in_o]; simp [evS, subs]
    | _ => obtain ⟨p, z, _⟩ := hd; cases z
  rw [evS_seq e4]
  have e5 : cmpD .Eq (.str (kindOf d)) (.str "dict") = some false := by cases d <;> first | exact eq_t | exact eq_l | exact eq_b | exact eq_o
  have hcm : cmpR P cl .Eq (.str (kindOf d)) (.str "dict") s = .ok (.bl false) s := by rw [cmpR_of rfl, e5]; rfl
  simp [evS, evB, ev, hcm, ofO, D.truth]
theorem kinds_loop (hi : IsiOk P) {th : Option D} {k : Nat} (hk : k + 1 ≤ 60) : ∀ (n : Nat) (line : List D) (found : List Str) (a b : Option D), D.ndsL line < n → (∀ d ∈ line, PyG d k) → found.length + D.ndsL line < LIM →
    ∃ (f' : List Str) (a' b' : Option D), (∀ x ∈ found, sOk x = true) → (∀ x ∈ f', sOk x = true) ∧ f'.length < LIM ∧ ∀ s, whileF (fun z s => evB P cl (.cmp .NotEq (.var 2) (.lst .nil)) z.env s) (evS P cl fu cKB) n (zK th found line a b) s = .ok (.nx (zK th f' [] a' b')) s
  | 0, _, _, _, _, h, _, _ => by omega
  | n + 1, line, found, a, b, h, hl, hm => by
    have ec : ∀ s, evB P cl (.cmp .NotEq (.var 2) (.lst .nil)) (zK th found line a b).env s = .ok (!line.isEmpty) s := fun s => by
      simp [evB, ev, evL, R.lim, cmp_nil hl hk, ofO, D.truth]
    rcases List.eq_nil_or_concat line with rfl | ⟨l, d, rfl⟩
    · refine ⟨found, a, b, fun hf => ⟨hf, by omega, fun s => ?_⟩⟩
      rw [whileF]
      simp only [ec, R.bind_ok]
      rfl
    · rw [List.concat_eq_append] at *
      have hn : D.ndsL (l ++ [d]) = D.ndsL l + d.nds := by rw [nds_app]; simp [D.ndsL]
      have hs := nds_subs (d := d)
      have hs2 := nds_len (subs d)
      have hs3 := nds_len l
      have e1 := fun s => kind_body (P := P) (cl := cl) (fu := fu) (th := th) (a := a) (b := b) (found := found) (l := l) (d := d) (s := s) hi (hl d (by simp)) (by omega) (by omega)
      have hq : ∀ x ∈ l ++ subs d, PyG x k := fun x hx => by
        rcases List.mem_append.mp hx with hx | hx
        · exact hl x (by simp [hx])
        · exact pyg_subs (hl d (by simp)) x hx
      obtain ⟨f', a', b', e2⟩ := kinds_loop hi hk n (l ++ subs d) (found ++ [kindOf d]) (some d) (some (.str (kindOf d))) (by rw [nds_app]; omega) hq (by rw [nds_app, List.length_append, List.length_singleton]; omega)
      refine ⟨f', a', b', fun hf => ?_⟩
      have hko : sOk (kindOf d) = true := by
        have c1 : sOk "tuple" = true := by decide +kernel
        have c2 : sOk "list" = true := by decide +kernel
        have c3 : sOk "bool" = true := by decide +kernel
        have c4 : sOk "other" = true := by decide +kernel
        cases d <;> first | exact c1 | exact c2 | exact c3 | exact c4
      obtain ⟨q1, q2, q3⟩ := e2 (fun x hx => (List.mem_append.mp hx).elim (hf x) fun hx => by rw [List.mem_singleton.mp hx]; exact hko)
      refine ⟨q1, q2, fun s => ?_⟩
      rw [whileF]
      have hne : (!(l ++ [d]).isEmpty) = true := by cases l <;> rfl
      simp only [ec, R.bind_ok, hne, if_true, e1]
      exact q3 s
theorem kinds_ok (hi : IsiOk P) {d : D} {k : Nat} (hd : PyG d k) (hk : k + 1 ≤ 60) (hn : d.nds < fu) (hm : d.nds < LIM) : ∃ ks : List Str, (∀ x ∈ ks, sOk x = true) ∧ ∀ s, runF P cl fu nKinds cKinds [d] s = .ok (.lst (ks.map .str)) s := by
  have hs : D.ndsL [d] = d.nds := by simp [D.ndsL]
  obtain ⟨f', a', b', e⟩ := kinds_loop (P := P) (cl := cl) (fu := fu) (th := some d) hi hk fu [d] [] none none (by omega) (by simpa using hd) (by simp; omega)
  obtain ⟨q1, q2, q3⟩ := e (by simp)
  refine ⟨f', q1, fun s => ?_⟩
  unfold runF cKinds
  have ez : z0 nKinds ([d].map some) = ⟨[some d, none, none, none, none, none, none, none], [], []⟩ := rfl
  rw [ez, evS_seq (z' := zK (some d) [] [d] none none) (s' := s)]
  · rw [evS_seq (z' := zK (some d) f' [] a' b') (s' := s)]
    · simp [evS, ev, endF]
    · rw [evS]; exact q3 s
  · have hlm : (0 + 1 : Nat) ≤ LIM := by decide
    simp [evS, ev, evL, R.lim, D.isL, Z.store, Z.setO, zK, hlm]
def nSays : List Str := ["told", "due"]
def cSays (f : Nat) : Sx := (.seq (.ret (.and (.cmp .Eq (.var 0) (.var 1)) (.cmp .Eq (.call f (.cons (.var 0) .nil)) (.call f (.cons (.var 1) .nil))))) .pass)
/-- of like data it says True -/
theorem says_ok {f : Nat} {d : D} {k : Nat} (hd : PyG d k) (hk : k ≤ 60) (h : ∃ ks : List Str, (∀ x ∈ ks, sOk x = true) ∧ ∀ s, cl.call f [d] s = .ok (.lst (ks.map .str)) s) (s : Dr) : runF P cl fu nSays (cSays f) [d, d] s = .ok (.bl true) s := by
  obtain ⟨ks, h1, h2⟩ := h
  have hi : isIns d = false := by
    obtain ⟨p, z, _⟩ := hd
    unfold isIns
    split
    · cases z
    · cases z
    · rfl
  have e1 : cmpR P cl .Eq d d s = .ok (.bl true) s := by rw [cmpR_of hi]; simp only [cmpD, hd.eq hk]; rfl
  have hl : PyG (.lst (ks.map .str)) 1 := .lst (.strs h1)
  have hi2 : isIns (.lst (ks.map .str)) = false := by
    unfold isIns
    split
    · rename_i e; cases e
    · rename_i e
      cases ks with
      | nil => cases e
      | cons x ks => injection e with e; injection e with e; cases e
    · rfl
  have e2 : cmpR P cl .Eq (.lst (ks.map .str)) (.lst (ks.map .str)) s = .ok (.bl true) s := by rw [cmpR_of hi2]; simp only [cmpD, hl.eq (by omega)]; rfl
  unfold runF cSays
  have ez : z0 nSays ([d, d].map some) = ⟨[some d, some d], [], []⟩ := rfl
  rw [ez]
  simp [evS, ev, evL, e1, h2, e2, D.truth, endF]
end
end Ah

/-! ## K00t -/
set_option Elab.async false
set_option linter.all false
set_option maxRecDepth 100000
set_option maxHeartbeats 4000000
namespace Ah
open PySem PySem.Spec PyProof.Rows L2
/-! ### the text -/
namespace Tx
def top (i : Nat) : Stmt := PySem.Challenge.pw_allhands_k00_whole_yards.main.body.getD i (.Pass ⟨0, 0, 0, 0⟩)
def mem (i j : Nat) : Stmt := match top i with | .ClassDef _ _ _ b _ _ _ _ _ _ _ => b.getD j (.Pass ⟨0, 0, 0, 0⟩) | _ => .Pass ⟨0, 0, 0, 0⟩
abbrev s0 : Stmt := top 11
abbrev s1 : Stmt := top 12
abbrev s2 : Stmt := top 13
abbrev s3 : Stmt := top 14
abbrev s4 : Stmt := top 15
abbrev s5 : Stmt := mem 20 0
abbrev s6 : Stmt := mem 20 1
abbrev s7 : Stmt := mem 20 2
abbrev s8 : Stmt := mem 20 3
abbrev s9 : Stmt := top 21
abbrev s10 : Stmt := top 22
abbrev s11 : Stmt := top 23
abbrev s12 : Stmt := top 24
abbrev s13 : Stmt := top 25
abbrev s14 : Stmt := top 26
abbrev s15 : Stmt := top 27
abbrev s16 : Stmt := top 28
abbrev s17 : Stmt := top 29
abbrev s18 : Stmt := top 30
abbrev s19 : Stmt := top 31
abbrev s20 : Stmt := top 32
abbrev s21 : Stmt := top 33
abbrev s22 : Stmt := top 35
abbrev s23 : Stmt := top 36
abbrev s24 : Stmt := top 37
abbrev s25 : Stmt := top 38
abbrev s26 : Stmt := top 39
abbrev s27 : Stmt := top 40
abbrev s28 : Stmt := top 41
abbrev s29 : Stmt := top 42
abbrev s30 : Stmt := top 43
abbrev s31 : Stmt := top 44
abbrev s32 : Stmt := top 45
abbrev s33 : Stmt := top 46
abbrev s34 : Stmt := top 47
abbrev s35 : Stmt := top 48
abbrev s36 : Stmt := top 49
abbrev s37 : Stmt := top 50
abbrev s38 : Stmt := top 51
abbrev s39 : Stmt := top 52
end Tx
/-! ### the core -/
namespace Co
/-- is_number -/
def N0 : List Str := ["thing"]
def c0 : Sx := (.seq (.ret (.and (.isi (.var 0) [(.bi "int")]) (.not (.isi (.var 0) [(.bi "bool")]))))
  .pass)
/-- is_between -/
def N1 : List Str := ["thing", "low", "high"]
def c1 : Sx := (.seq (.ret (.and (.call 0 (.cons (.var 0) .nil)) (.chn .LtE .LtE (.var 1) (.var 0) (.var 2))))
  .pass)
/-- is_list -/
def N2 : List Str := ["thing"]
def c2 : Sx := (.seq (.ret (.isi (.var 0) [(.bi "list"), (.bi "tuple")]))
  .pass)
/-- is_plain_word -/
def N3 : List Str := ["thing", "sign"]
def c3 : Sx := (.seq (.ret (.and (.isi (.var 0) [(.bi "str")]) (.and (.chn .LtE .LtE (.int 1) (.blt .len (.var 0)) (.gcon 1)) (.blt .all (.comp [("sign", 1)] (.cmp .In (.var 1) (.gcon 0)) (.nm 1) (.var 0) .nop)))))
  .pass)
/-- are_unlike_words -/
def N4 : List Str := ["thing", "low", "high", "word"]
def c4 : Sx := (.seq (.ife (.or (.not (.call 2 (.cons (.var 0) .nil))) (.or (.not (.chn .LtE .LtE (.var 1) (.blt .len (.var 0)) (.var 2))) (.not (.blt .all (.comp [("word", 3)] (.call 3 (.cons (.var 3) .nil)) (.nm 3) (.var 0) .nop)))))
  (.seq (.ret (.bl false))
  .pass)
  .pass)
  (.seq (.ret (.cmp .Eq (.blt .lenSet (.var 0)) (.blt .len (.var 0))))
  .pass))
/-- Yard.__init__ -/
def N5 : List Str := ["self", "kinds", "tools", "word"]
def c5 : Sx := (.seq (.ife (.not (.call 4 (.cons (.var 1) (.cons (.int 1) (.cons (.gcon 2) .nil)))))
  (.seq (.rais 1)
  .pass)
  .pass)
  (.seq (.ife (.or (.not (.call 4 (.cons (.var 2) (.cons (.int 0) (.cons (.gcon 3) .nil))))) (.cmp .NotEq (.comp [("word", 3)] (.var 3) (.nm 3) (.var 2) (.cmp .In (.var 3) (.var 1))) (.lst .nil)))
  (.seq (.rais 4)
  .pass)
  .pass)
  (.seq (.slf 0 ["y_kinds", "y_tools"] (.cons (.blt .tuple (.var 1)) (.cons (.blt .tuple (.var 2)) .nil)))
  .pass)))
/-- Yard.kinds -/
def N6 : List Str := ["self"]
def c6 : Sx := (.seq (.ret (.att (.var 0) "y_kinds"))
  .pass)
/-- Yard.tools -/
def N7 : List Str := ["self"]
def c7 : Sx := (.seq (.ret (.att (.var 0) "y_tools"))
  .pass)
/-- Yard.__eq__ -/
def N8 : List Str := ["self", "other"]
def c8 : Sx := (.seq (.ret (.and (.isi (.var 1) [(.cls 0)]) (.cmp .Eq (.tup (.cons (.att (.var 0) "kinds") (.cons (.att (.var 0) "tools") .nil))) (.tup (.cons (.att (.var 1) "kinds") (.cons (.att (.var 1) "tools") .nil))))))
  .pass)
/-- need_yard -/
def N9 : List Str := ["yard"]
def c9 : Sx := (.seq (.ife (.not (.isi (.var 0) [(.cls 0)]))
  (.seq (.rais 6)
  .pass)
  .pass)
  .pass)
/-- is_kind -/
def N10 : List Str := ["yard", "thing"]
def c10 : Sx := (.seq (.ret (.and (.isi (.var 1) [(.bi "str")]) (.cmp .In (.var 1) (.att (.var 0) "kinds"))))
  .pass)
/-- is_tool -/
def N11 : List Str := ["yard", "thing"]
def c11 : Sx := (.seq (.ret (.and (.isi (.var 1) [(.bi "str")]) (.cmp .In (.var 1) (.att (.var 0) "tools"))))
  .pass)
/-- need_renaming -/
def N12 : List Str := ["yard", "word", "other"]
def c12 : Sx := (.seq (.ife (.and (.not (.call 10 (.cons (.var 0) (.cons (.var 1) .nil)))) (.not (.call 11 (.cons (.var 0) (.cons (.var 1) .nil)))))
  (.seq (.rais 5)
  .pass)
  .pass)
  (.seq (.ife (.or (.not (.call 3 (.cons (.var 2) .nil))) (.or (.call 10 (.cons (.var 0) (.cons (.var 2) .nil))) (.call 11 (.cons (.var 0) (.cons (.var 2) .nil)))))
  (.seq (.rais 3)
  .pass)
  .pass)
  .pass))
/-- is_word -/
def N13 : List Str := ["thing"]
def c13 : Sx := (.seq (.ret (.call 3 (.cons (.var 0) .nil)))
  .pass)
/-- renamed_of -/
def N14 : List Str := ["yard", "word", "other", "words", "some", "here"]
def c14 : Sx := (.seq (.asg (.nm 3) (.comp [("some", 4)] (.comp [("here", 5)] (.ife (.cmp .Eq (.var 5) (.var 1)) (.var 2) (.var 5)) (.nm 5) (.var 4) .nop) (.nm 4) (.tup (.cons (.att (.var 0) "kinds") (.cons (.att (.var 0) "tools") .nil))) .nop))
  (.seq (.ret (.make 0 (.cons (.idx (.var 3) (.int 0)) (.cons (.idx (.var 3) (.int 1)) .nil))))
  .pass))
/-- renamed_yard -/
def N15 : List Str := ["yard", "word", "other"]
def c15 : Sx := (.seq (.expr (.call 9 (.cons (.var 0) .nil)))
  (.seq (.expr (.call 12 (.cons (.var 0) (.cons (.var 1) (.cons (.var 2) .nil)))))
  (.seq (.ret (.call 14 (.cons (.var 0) (.cons (.var 1) (.cons (.var 2) .nil)))))
  .pass)))
/-- fresh_of -/
def N16 : List Str := ["yard", "many", "every", "one", "other", "word"]
def c16 : Sx := (.seq (.asg (.nm 2) (.bin .Add (.blt .list (.gcon 0)) (.comp2 [("one", 3), ("other", 4)] (.bin .Add (.var 3) (.var 4)) (.nm 3) (.gcon 0) (.nm 4) (.gcon 0) .nop)))
  (.seq (.ret (.blt .tuple (.sli (.comp [("word", 5)] (.var 5) (.nm 5) (.var 2) (.and (.cmp .NotIn (.var 5) (.att (.var 0) "kinds")) (.cmp .NotIn (.var 5) (.att (.var 0) "tools")))) .nop (.var 1))))
  .pass))
/-- fresh_words -/
def N17 : List Str := ["yard", "many"]
def c17 : Sx := (.seq (.expr (.call 9 (.cons (.var 0) .nil)))
  (.seq (.ife (.not (.call 1 (.cons (.var 1) (.cons (.int 0) (.cons (.gcon 2) .nil)))))
  (.seq (.rais 2)
  .pass)
  .pass)
  (.seq (.ret (.call 16 (.cons (.var 0) (.cons (.var 1) .nil))))
  .pass)))
/-- events_of -/
def N18 : List Str := ["yard", "found", "kind", "place", "tool"]
def c18 : Sx := (.seq (.asg (.nm 1) (.bin .Add (.comp [("kind", 2)] (.tup (.cons (.str "start") (.cons (.var 2) .nil))) (.nm 2) (.att (.var 0) "kinds") .nop) (.comp [("place", 3)] (.tup (.cons (.str "end") (.cons (.var 3) .nil))) (.nm 3) (.rng (.int 0) (.gcon 4)) .nop)))
  (.seq (.ret (.bin .Add (.bin .Add (.var 1) (.comp [("tool", 4)] (.tup (.cons (.str "take") (.cons (.var 4) .nil))) (.nm 4) (.att (.var 0) "tools") .nop)) (.comp [("tool", 4)] (.tup (.cons (.str "give") (.cons (.var 4) .nil))) (.nm 4) (.att (.var 0) "tools") .nop)))
  .pass))
/-- is_event_of -/
def N19 : List Str := ["yard", "thing"]
def c19 : Sx := (.seq (.ife (.or (.not (.isi (.var 1) [(.bi "tuple")])) (.or (.cmp .NotEq (.blt .len (.var 1)) (.int 2)) (.not (.isi (.idx (.var 1) (.int 0)) [(.bi "str")]))))
  (.seq (.ret (.bl false))
  .pass)
  .pass)
  (.seq (.ife (.cmp .Eq (.idx (.var 1) (.int 0)) (.str "end"))
  (.seq (.ret (.call 1 (.cons (.idx (.var 1) (.int 1)) (.cons (.int 0) (.cons (.bin .Sub (.gcon 4) (.int 1)) .nil)))))
  .pass)
  .pass)
  (.seq (.ife (.cmp .Eq (.idx (.var 1) (.int 0)) (.str "start"))
  (.seq (.ret (.call 10 (.cons (.var 0) (.cons (.idx (.var 1) (.int 1)) .nil))))
  .pass)
  .pass)
  (.seq (.ret (.and (.cmp .In (.idx (.var 1) (.int 0)) (.tup (.cons (.str "take") (.cons (.str "give") .nil)))) (.call 11 (.cons (.var 0) (.cons (.idx (.var 1) (.int 1)) .nil)))))
  .pass))))
/-- events -/
def N20 : List Str := ["yard"]
def c20 : Sx := (.seq (.expr (.call 9 (.cons (.var 0) .nil)))
  (.seq (.ret (.blt .tuple (.call 18 (.cons (.var 0) .nil))))
  .pass))
/-- is_event -/
def N21 : List Str := ["yard", "thing"]
def c21 : Sx := (.seq (.expr (.call 9 (.cons (.var 0) .nil)))
  (.seq (.ret (.call 19 (.cons (.var 0) (.cons (.var 1) .nil))))
  .pass))
/-- _law_begun -/
def N22 : List Str := ["script", "large", "cell"]
/-- _law_mixed -/
def N23 : List Str := ["draw", "great", "turn", "found", "blend", "cell"]
def c23 : Sx := (.seq (.dset (.var 0) "turn" (.bin .Add (.dgi (.var 0) "turn") (.int 1)))
  (.seq (.par 2 3 false false (.blt .int (.dgi (.var 0) "turn")) (.int 0))
  (.seq (.for_ (.nm 1) (.lst (.cons (.int 2147483647) (.cons (.int 2147483629) (.cons (.int 2147483587) .nil))))
  (.seq (.asg (.nm 4) (.bin .Mod (.bin .Add (.bin .Mult (.var 2) (.int 48271)) (.bin .FloorDiv (.var 1) (.int 11))) (.var 1)))
  (.seq (.forC (.nm 5) (.var 0)
  (.seq (.asg (.nm 4) (.bin .Mod (.bin .Add (.bin .Add (.bin .Mult (.var 4) (.int 69621)) (.blt .int (.var 5))) (.var 2)) (.var 1)))
  .pass))
  (.seq (.asg (.nm 3) (.bin .Add (.bin .Mult (.var 3) (.int 2147483659)) (.bin .Mod (.bin .Pow (.var 4) (.int 5)) (.var 1))))
  .pass))))
  (.seq (.ret (.var 3))
  .pass))))
/-- _law_take -/
def N24 : List Str := ["draw", "amount", "found"]
def c24 : Sx := (.seq (.ife (.cmp .Eq (.dgi (.var 0) "rest") (.int 0))
  (.seq (.dset (.var 0) "rest" (.ife (.dne (.var 0)) (.dpop (.var 0)) (.call 23 (.cons (.var 0) .nil))))
  .pass)
  .pass)
  (.seq (.asg (.nm 2) (.bin .Mod (.blt .int (.dgi (.var 0) "rest")) (.var 1)))
  (.seq (.dset (.var 0) "rest" (.bin .FloorDiv (.blt .int (.dgi (.var 0) "rest")) (.var 1)))
  (.seq (.ret (.var 2))
  .pass))))
/-- _law_pick -/
def N25 : List Str := ["draw", "some"]
def c25 : Sx := (.seq (.ret (.idx (.var 1) (.call 24 (.cons (.var 0) (.cons (.blt .len (.var 1)) .nil)))))
  .pass)
/-- _law_shuffled -/
def N26 : List Str := ["draw", "some", "left", "found"]
def c26 : Sx := (.seq (.par 2 3 true true (.blt .list (.var 1)) (.lst .nil))
  (.seq (.whl (.cmp .NotEq (.var 2) (.lst .nil))
  (.seq (.appPop 3 2 (.call 24 (.cons (.var 0) (.cons (.blt .len (.var 2)) .nil))))
  .pass))
  (.seq (.ret (.var 3))
  .pass)))
/-- _law_caught -/
def N27 : List Str := ["work", "caught", "error"]
/-- _law_kinds -/
def N28 : List Str := ["thing", "found", "line", "here", "kind", "named", "key", "name"]
def c28 : Sx := (.seq (.par 1 2 true true (.lst .nil) (.lst (.cons (.var 0) .nil)))
  (.seq (.whl (.cmp .NotEq (.var 2) (.lst .nil))
  (.seq (.pop 3 2)
  (.seq (.asg (.nm 4) (.ife (.isi (.var 3) [(.bi "tuple")]) (.str "tuple") (.ife (.isi (.var 3) [(.bi "list")]) (.str "list") (.ife (.isi (.var 3) [(.bi "dict")]) (.str "dict") (.ife (.isi (.var 3) [(.bi "bool")]) (.str "bool") (.str "other"))))))
  (.seq (.app 1 (.var 4))
  (.seq (.ife (.cmp .In (.var 4) (.lst (.cons (.str "tuple") (.cons (.str "list") .nil))))
  (.seq (.own 2 (.bin .Add (.var 2) (.blt .list (.var 3))))
  .pass)
  .pass)
  (.seq (.ife (.cmp .Eq (.var 4) (.str "dict"))
  (.seq (.asg (.nm 5) .nil)
  (.seq (.own 2 (.bin .Add (.bin .Add (.var 2) (.comp [("name", 7)] (.idx (.var 5) (.var 7)) (.nm 7) .nil .nop)) (.comp [("name", 7)] (.idx (.var 3) (.idx (.var 5) (.var 7))) (.nm 7) .nil .nop)))
  .pass))
  .pass)
  .pass))))))
  (.seq (.ret (.var 1))
  .pass)))
/-- _law_says -/
def N29 : List Str := ["told", "due"]
def c29 : Sx := (.seq (.ret (.and (.cmp .Eq (.var 0) (.var 1)) (.cmp .Eq (.call 28 (.cons (.var 0) .nil)) (.call 28 (.cons (.var 1) .nil)))))
  .pass)
/-- _law_told -/
def N30 : List Str := ["draw", "most", "words", "many"]
def c30 : Sx := (.seq (.asg (.nm 2) (.call 26 (.cons (.var 0) (.cons (.lst (.cons (.str "cut") (.cons (.str "sew") (.cons (.str "saw") (.cons (.str "glue") (.cons (.str "a") (.cons (.str "b") (.cons (.str "zz") (.cons (.str "do") (.cons (.str "end") (.cons (.str "then") (.cons (.str "start") (.cons (.str "abcdefgh") (.cons (.str "x") .nil)))))))))))))) .nil))))
  (.seq (.asg (.nm 3) (.bin .Add (.int 1) (.call 24 (.cons (.var 0) (.cons (.var 1) .nil)))))
  (.seq (.ret (.tup (.cons (.sli (.var 2) .nop (.var 3)) (.cons (.sli (.var 2) (.var 3) (.bin .Add (.var 3) (.call 25 (.cons (.var 0) (.cons (.lst (.cons (.int 0) (.cons (.int 0) (.cons (.int 1) (.cons (.int 1) (.cons (.int 2) .nil)))))) .nil))))) .nil))))
  .pass)))
/-- _law_yard -/
def N31 : List Str := ["told"]
def c31 : Sx := (.seq (.ret (.make 0 (.cons (.idx (.var 0) (.int 0)) (.cons (.idx (.var 0) (.int 1)) .nil))))
  .pass)
/-- _law_events -/
def N32 : List Str := ["told", "found", "kind", "place", "tool"]
def c32 : Sx := (.seq (.asg (.nm 1) (.bin .Add (.comp [("kind", 2)] (.tup (.cons (.str "start") (.cons (.var 2) .nil))) (.nm 2) (.idx (.var 0) (.int 0)) .nop) (.comp [("place", 3)] (.tup (.cons (.str "end") (.cons (.var 3) .nil))) (.nm 3) (.lst (.cons (.int 0) (.cons (.int 1) (.cons (.int 2) (.cons (.int 3) .nil))))) .nop)))
  (.seq (.ret (.bin .Add (.bin .Add (.var 1) (.comp [("tool", 4)] (.tup (.cons (.str "take") (.cons (.var 4) .nil))) (.nm 4) (.idx (.var 0) (.int 1)) .nop)) (.comp [("tool", 4)] (.tup (.cons (.str "give") (.cons (.var 4) .nil))) (.nm 4) (.idx (.var 0) (.int 1)) .nop)))
  .pass))
/-- _law_many_words -/
def N33 : List Str := ["many", "one", "letters", "found", "other"]
def c33 : Sx := (.seq (.par 2 3 false false (.str "abcdefghijklmnopqrstuvwxyz") (.lst .nil))
  (.seq (.for_ (.nm 1) (.str "zyx")
  (.seq (.asg (.nm 3) (.bin .Add (.var 3) (.comp [("other", 4)] (.bin .Add (.var 1) (.var 4)) (.nm 4) (.var 2) .nop)))
  .pass))
  (.seq (.ret (.sli (.var 3) .nop (.var 0)))
  .pass)))
/-- _law_is_word -/
def N34 : List Str := ["thing", "sign"]
def c34 : Sx := (.seq (.ret (.and (.isi (.var 0) [(.bi "str")]) (.and (.chn .Lt .Lt (.int 0) (.blt .len (.var 0)) (.int 9)) (.cmp .Eq (.comp [("sign", 1)] (.var 1) (.nm 1) (.var 0) (.cmp .NotIn (.var 1) (.str "abcdefghijklmnopqrstuvwxyz"))) (.lst .nil)))))
  .pass)
/-- _law_fresh -/
def N35 : List Str := ["told", "many", "every", "one", "word", "letters", "found", "letter", "other"]
def c35 : Sx := (.seq (.par 5 6 false false (.str "abcdefghijklmnopqrstuvwxyz") (.lst .nil))
  (.seq (.asg (.nm 2) (.comp [("letter", 7)] (.var 7) (.nm 7) (.var 5) .nop))
  (.seq (.for_ (.nm 3) (.str "abc")
  (.seq (.asg (.nm 2) (.bin .Add (.var 2) (.comp [("other", 8)] (.bin .Add (.var 3) (.var 8)) (.nm 8) (.var 5) .nop)))
  .pass))
  (.seq (.for_ (.nm 4) (.var 2)
  (.seq (.asg (.nm 6) (.bin .Add (.var 6) (.ife (.and (.cmp .NotIn (.var 4) (.bin .Add (.idx (.var 0) (.int 0)) (.idx (.var 0) (.int 1)))) (.cmp .Lt (.blt .len (.var 6)) (.var 1))) (.lst (.cons (.var 4) .nil)) (.lst .nil))))
  .pass))
  (.seq (.ret (.blt .tuple (.var 6)))
  .pass)))))
/-- _law_right -/
def N36 : List Str := ["draw", "told", "yard", "others", "odd", "thing", "kinds", "tools", "every", "many", "due", "tool", "other", "event"]
def c36 : Sx := (.seq (.asg (.nm 1) (.call 30 (.cons (.var 0) (.cons (.int 4) .nil))))
  (.seq (.par 6 7 true true (.blt .list (.idx (.var 1) (.int 0))) (.blt .list (.idx (.var 1) (.int 1))))
  (.seq (.asg (.nm 2) (.call 25 (.cons (.var 0) (.cons (.lst (.cons (.make 0 (.cons (.var 6) (.cons (.var 7) .nil))) (.cons (.makeK 0 ["tools", "kinds"] .nil (.cons (.blt .tuple (.var 7)) (.cons (.blt .tuple (.var 6)) .nil))) .nil))) .nil))))
  (.seq (.app 6 (.str "late"))
  (.seq (.app 7 (.str "later"))
  (.seq (.ife (.or (.not (.call 29 (.cons (.lst (.cons (.att (.var 2) "kinds") (.cons (.att (.var 2) "tools") .nil))) (.cons (.lst (.cons (.blt .tuple (.idx (.var 1) (.int 0))) (.cons (.blt .tuple (.idx (.var 1) (.int 1))) .nil))) .nil)))) (.cmp .NotEq (.var 2) (.call 31 (.cons (.var 1) .nil))))
  (.seq (.ret (.bl false))
  .pass)
  .pass)
  (.seq (.asg (.nm 3) (.lst (.cons (.tup (.cons (.bin .Add (.idx (.var 1) (.int 0)) (.lst (.cons (.str "late") .nil))) (.cons (.idx (.var 1) (.int 1)) .nil))) (.cons (.tup (.cons (.idx (.var 1) (.int 0)) (.cons (.lst .nil) .nil))) (.cons (.tup (.cons (.rev (.idx (.var 1) (.int 0))) (.cons (.idx (.var 1) (.int 1)) .nil))) (.cons (.tup (.cons (.bin .Add (.idx (.var 1) (.int 0)) (.idx (.var 1) (.int 1))) (.cons (.lst .nil) .nil))) (.cons (.tup (.cons (.idx (.var 1) (.int 0)) (.cons (.rev (.idx (.var 1) (.int 1))) .nil))) .nil)))))))
  (.seq (.ife (.or (.cmp .NotEq (.comp [("other", 12)] (.int 1) (.nm 12) (.var 3) (.cmp .NotEq (.cmp .Eq (.var 2) (.call 31 (.cons (.var 12) .nil))) (.cmp .Eq (.var 12) (.tup (.cons (.idx (.var 1) (.int 0)) (.cons (.idx (.var 1) (.int 1)) .nil)))))) (.lst .nil)) (.or (.cmp .Eq (.var 2) (.tup (.cons (.att (.var 2) "kinds") (.cons (.att (.var 2) "tools") .nil)))) (.cmp .Eq (.var 2) .non)))
  (.seq (.ret (.bl false))
  .pass)
  .pass)
  (.seq (.par 8 9 false false (.call 32 (.cons (.var 1) .nil)) (.call 24 (.cons (.var 0) (.cons (.int 41) .nil))))
  (.seq (.ife (.not (.call 29 (.cons (.lst (.cons (.call 20 (.cons (.var 2) .nil)) (.cons (.call 17 (.cons (.var 2) (.cons (.var 9) .nil))) (.cons (.callK 17 ["many", "yard"] .nil (.cons (.var 9) (.cons (.var 2) .nil))) .nil)))) (.cons (.lst (.cons (.blt .tuple (.var 8)) (.cons (.call 35 (.cons (.var 1) (.cons (.var 9) .nil))) (.cons (.call 35 (.cons (.var 1) (.cons (.var 9) .nil))) .nil)))) .nil))))
  (.seq (.ret (.bl false))
  .pass)
  .pass)
  (.seq (.asg (.nm 4) (.lst (.cons .non (.cons (.int 5) (.cons (.str "start") (.cons (.tup .nil) (.cons (.tup (.cons (.str "start") .nil)) (.cons (.tup (.cons (.str "start") (.cons (.str "late") .nil))) (.cons (.tup (.cons (.str "end") (.cons (.int 4) .nil))) (.cons (.tup (.cons (.str "end") (.cons (.neg (.int 1)) .nil))) (.cons (.tup (.cons (.str "end") (.cons (.bl true) .nil))) (.cons (.tup (.cons (.str "end") (.cons (.str "0") .nil))) (.cons (.lst (.cons (.str "start") (.cons (.idx (.idx (.var 1) (.int 0)) (.int 0)) .nil))) (.cons (.tup (.cons (.str "take") (.cons (.idx (.idx (.var 1) (.int 0)) (.int 0)) .nil))) (.cons (.tup (.cons (.str "give") (.cons .non .nil))) .nil)))))))))))))))
  (.seq (.asg (.nm 4) (.bin .Add (.bin .Add (.var 4) (.lst (.cons (.tup (.cons (.str "start") (.cons (.idx (.idx (.var 1) (.int 0)) (.int 0)) (.cons (.int 1) .nil)))) (.cons (.tup (.cons (.int 0) (.cons (.idx (.idx (.var 1) (.int 0)) (.int 0)) .nil))) (.cons (.tup (.cons (.str "begin") (.cons (.idx (.idx (.var 1) (.int 0)) (.int 0)) .nil))) .nil))))) (.comp [("tool", 11)] (.tup (.cons (.str "start") (.cons (.var 11) .nil))) (.nm 11) (.idx (.var 1) (.int 1)) .nop)))
  (.seq (.for_ (.nm 5) (.lst (.cons (.call 25 (.cons (.var 0) (.cons (.var 8) .nil))) (.cons (.call 25 (.cons (.var 0) (.cons (.var 4) .nil))) (.cons (.call 25 (.cons (.var 0) (.cons (.var 4) .nil))) .nil))))
  (.seq (.asg (.nm 10) (.cmp .In (.blt .repr (.var 5)) (.comp [("event", 13)] (.blt .repr (.var 13)) (.nm 13) (.var 8) .nop)))
  (.seq (.ife (.not (.call 29 (.cons (.lst (.cons (.call 21 (.cons (.var 2) (.cons (.var 5) .nil))) (.cons (.callK 21 ["thing", "yard"] .nil (.cons (.var 5) (.cons (.var 2) .nil))) .nil))) (.cons (.lst (.cons (.var 10) (.cons (.var 10) .nil))) .nil))))
  (.seq (.ret (.bl false))
  .pass)
  .pass)
  .pass)))
  (.seq (.ret (.call 37 (.cons (.var 0) (.cons (.var 1) (.cons (.var 2) .nil)))))
  .pass))))))))))))))
/-- _law_renamed_right -/
def N37 : List Str := ["draw", "told", "yard", "word", "other", "free", "found", "error", "errors", "one"]
def c37 : Sx := (.seq (.asg (.nm 3) (.call 25 (.cons (.var 0) (.cons (.bin .Add (.idx (.var 1) (.int 0)) (.idx (.var 1) (.int 1))) .nil))))
  (.seq (.asg (.nm 4) (.call 25 (.cons (.var 0) (.cons (.lst (.cons (.str "late") (.cons (.str "m") (.cons (.str "then") (.cons (.var 3) (.cons (.idx (.idx (.var 1) (.int 0)) (.int 0)) (.cons (.str "A") (.cons (.str "") (.cons (.str "a b") (.cons (.str "abcdefghi") (.cons .non .nil))))))))))) .nil))))
  (.seq (.asg (.nm 5) (.and (.call 34 (.cons (.var 4) .nil)) (.cmp .NotIn (.var 4) (.bin .Add (.idx (.var 1) (.int 0)) (.idx (.var 1) (.int 1))))))
  (.seq (.own 6 (.lst .nil))
  (.seq (.cApp 6 7 (.call 15 (.cons (.var 2) (.cons (.var 3) (.cons (.var 4) .nil)))))
  (.seq (.ife (.or (.cmp .NotEq (.var 5) (.isN (.var 7))) (.and (.notN (.var 7)) (.not (.isi (.var 7) [(.ecl 3)]))))
  (.seq (.ret (.bl false))
  .pass)
  .pass)
  (.seq (.ife (.and (.var 5) (.cmp .NotEq (.var 6) (.lst (.cons (.call 31 (.cons (.tup (.cons (.comp [("one", 9)] (.ife (.cmp .Eq (.var 9) (.var 3)) (.var 4) (.var 9)) (.nm 9) (.idx (.var 1) (.int 0)) .nop) (.cons (.comp [("one", 9)] (.ife (.cmp .Eq (.var 9) (.var 3)) (.var 4) (.var 9)) (.nm 9) (.idx (.var 1) (.int 1)) .nop) .nil))) .nil)) .nil))))
  (.seq (.ret (.bl false))
  .pass)
  .pass)
  (.seq (.ife (.and (.var 5) (.cmp .NotEq (.callK 15 ["other", "word", "yard"] .nil (.cons (.var 4) (.cons (.var 3) (.cons (.var 2) .nil)))) (.idx (.var 6) (.int 0))))
  (.seq (.ret (.bl false))
  .pass)
  .pass)
  (.seq (.own 8 (.lst (.cons (.isi (.caught (.call 15 (.cons (.var 2) (.cons (.call 25 (.cons (.var 0) (.cons (.lst (.cons (.str "late") (.cons .non (.cons (.int 5) (.cons (.str "") .nil))))) .nil))) (.cons .non .nil))))) [(.ecl 5)]) .nil)))
  (.seq (.app 8 (.isi (.caught (.call 15 (.cons .non (.cons .non (.cons .non .nil))))) [(.ecl 6)]))
  (.seq (.app 8 (.isi (.caught (.call 17 (.cons (.var 2) (.cons (.call 25 (.cons (.var 0) (.cons (.lst (.cons (.neg (.int 1)) (.cons (.int 41) (.cons .non (.cons (.bl true) (.cons (.str "1") .nil)))))) .nil))) .nil)))) [(.ecl 2)]))
  (.seq (.app 8 (.isi (.caught (.call 20 (.cons (.var 1) .nil))) [(.ecl 6)]))
  (.seq (.app 8 (.isi (.caught (.call 21 (.cons .non (.cons .non .nil)))) [(.ecl 6)]))
  (.seq (.ret (.cmp .Eq (.var 8) (.bin .Mult (.lst (.cons (.bl true) .nil)) (.int 5))))
  .pass))))))))))))))
/-- _law_limits_right -/
def N38 : List Str := ["draw", "words", "yard", "bad", "errors", "thing"]
def c38 : Sx := (.seq (.asg (.nm 1) (.call 33 (.cons (.int 45) .nil)))
  (.seq (.asg (.nm 2) (.make 0 (.cons (.sli (.var 1) .nop (.int 40)) (.cons (.sli (.var 1) (.int 40) (.int 42)) .nil))))
  (.seq (.ife (.or (.cmp .NotEq (.blt .len (.att (.var 2) "kinds")) (.int 40)) (.or (.cmp .NotEq (.blt .len (.call 20 (.cons (.var 2) .nil))) (.int 48)) (.cmp .NotEq (.call 17 (.cons (.var 2) (.cons (.int 40) .nil))) (.call 35 (.cons (.tup (.cons (.var 1) (.cons (.lst .nil) .nil))) (.cons (.int 40) .nil))))))
  (.seq (.ret (.bl false))
  .pass)
  .pass)
  (.seq (.asg (.nm 3) (.call 25 (.cons (.var 0) (.cons (.lst (.cons (.sli (.var 1) .nop (.int 41)) (.cons (.lst .nil) (.cons .non (.cons (.str "ab") (.cons (.lst (.cons (.str "a") (.cons (.str "a") .nil))) (.cons (.lst (.cons (.str "a") (.cons (.int 5) .nil))) (.cons (.lst (.cons (.str "A") .nil)) (.cons (.dic [.inr "a"] (.cons (.int 1) .nil)) (.cons (.lst (.cons (.str "abcdefghi") .nil)) (.cons (.lst (.cons (.str "") .nil)) .nil))))))))))) .nil))))
  (.seq (.own 4 (.lst (.cons (.isi (.caught (.makeK 0 [] (.cons (.var 3) .nil) .nil)) [(.ecl 1)]) (.cons (.isi (.caught (.make 0 (.cons (.var 3) (.cons .non .nil)))) [(.ecl 1)]) .nil))))
  (.seq (.asg (.nm 3) (.call 25 (.cons (.var 0) (.cons (.lst (.cons (.lst (.cons (.str "a") (.cons (.str "b") (.cons (.str "d") .nil)))) (.cons .non (.cons (.lst (.cons (.str "a") (.cons (.str "a") .nil))) (.cons (.lst (.cons (.str "c") .nil)) (.cons (.lst (.cons (.int 5) .nil)) (.cons (.str "a") (.cons (.dic [] .nil) .nil)))))))) .nil))))
  (.seq (.app 4 (.isi (.caught (.make 0 (.cons (.lst (.cons (.str "c") .nil)) (.cons (.var 3) .nil)))) [(.ecl 4)]))
  (.seq (.for_ (.nm 5) (.lst (.cons (.str "a") (.cons (.str "abcdefgh") (.cons (.str "abcdefghi") (.cons (.str "") (.cons (.str "A") (.cons (.str "a b") (.cons (.str "a1") (.cons .non (.cons (.int 5) (.cons (.lst (.cons (.str "a") .nil)) (.cons (.str "zz") (.cons (.str "start") .nil)))))))))))))
  (.seq (.app 4 (.and (.call 29 (.cons (.call 13 (.cons (.var 5) .nil)) (.cons (.call 34 (.cons (.var 5) .nil)) .nil))) (.call 29 (.cons (.callK 13 ["thing"] .nil (.cons (.var 5) .nil)) (.cons (.call 34 (.cons (.var 5) .nil)) .nil)))))
  .pass))
  (.seq (.ret (.and (.cmp .NotIn (.bl false) (.var 4)) (.and (.cmp .Eq (.att (.makeK 0 [] (.cons (.lst (.cons (.str "a") .nil)) .nil) .nil) "tools") (.tup .nil)) (.cmp .Eq (.makeK 0 ["kinds"] .nil (.cons (.lst (.cons (.str "a") .nil)) .nil)) (.make 0 (.cons (.lst (.cons (.str "a") .nil)) (.cons (.tup .nil) .nil)))))))
  .pass)))))))))
/-- law -/
def N39 : List Str := ["script", "draw", "lap"]
/-- what is behind the law's first statement -/
def cL : Sx := (.seq (.for_ (.nm 2) (.rng (.int 0) (.bin .Add (.int 3) (.blt2 .minI (.blt .len (.var 0)) (.int 8))))
  (.seq (.ife (.not (.call 36 (.cons (.var 1) .nil)))
  (.seq (.ret (.bl false))
  .pass)
  .pass)
  .pass))
  (.seq (.ret (.call 38 (.cons (.var 1) .nil)))
  .pass))
def fns : List FnI := [⟨"is_number", "is_number", ["thing"], [], N0, false⟩,
  ⟨"is_between", "is_between", ["thing", "low", "high"], [], N1, false⟩,
  ⟨"is_list", "is_list", ["thing"], [], N2, false⟩,
  ⟨"is_plain_word", "is_plain_word", ["thing"], [], N3, false⟩,
  ⟨"are_unlike_words", "are_unlike_words", ["thing", "low", "high"], [], N4, false⟩,
  ⟨Str.empty, "Yard.__init__", ["self", "kinds", "tools"], [.tup []], N5, false⟩,
  ⟨Str.empty, "Yard.kinds", ["self"], [], N6, false⟩,
  ⟨Str.empty, "Yard.tools", ["self"], [], N7, false⟩,
  ⟨Str.empty, "Yard.__eq__", ["self", "other"], [], N8, false⟩,
  ⟨"need_yard", "need_yard", ["yard"], [], N9, false⟩,
  ⟨"is_kind", "is_kind", ["yard", "thing"], [], N10, false⟩,
  ⟨"is_tool", "is_tool", ["yard", "thing"], [], N11, false⟩,
  ⟨"need_renaming", "need_renaming", ["yard", "word", "other"], [], N12, false⟩,
  ⟨"is_word", "is_word", ["thing"], [], N13, false⟩,
  ⟨"renamed_of", "renamed_of", ["yard", "word", "other"], [], N14, false⟩,
  ⟨"renamed_yard", "renamed_yard", ["yard", "word", "other"], [], N15, false⟩,
  ⟨"fresh_of", "fresh_of", ["yard", "many"], [], N16, false⟩,
  ⟨"fresh_words", "fresh_words", ["yard", "many"], [], N17, false⟩,
  ⟨"events_of", "events_of", ["yard"], [], N18, false⟩,
  ⟨"is_event_of", "is_event_of", ["yard", "thing"], [], N19, false⟩,
  ⟨"events", "events", ["yard"], [], N20, false⟩,
  ⟨"is_event", "is_event", ["yard", "thing"], [], N21, false⟩,
  ⟨"_law_begun", "_law_begun", ["script"], [], N22, false⟩,
  ⟨"_law_mixed", "_law_mixed", ["draw"], [], N23, false⟩,
  ⟨"_law_take", "_law_take", ["draw", "amount"], [], N24, false⟩,
  ⟨"_law_pick", "_law_pick", ["draw", "some"], [], N25, false⟩,
  ⟨"_law_shuffled", "_law_shuffled", ["draw", "some"], [], N26, false⟩,
  ⟨"_law_caught", "_law_caught", ["work"], [], N27, false⟩,
  ⟨"_law_kinds", "_law_kinds", ["thing"], [], N28, true⟩,
  ⟨"_law_says", "_law_says", ["told", "due"], [], N29, true⟩,
  ⟨"_law_told", "_law_told", ["draw", "most"], [], N30, false⟩,
  ⟨"_law_yard", "_law_yard", ["told"], [], N31, false⟩,
  ⟨"_law_events", "_law_events", ["told"], [], N32, false⟩,
  ⟨"_law_many_words", "_law_many_words", ["many"], [], N33, false⟩,
  ⟨"_law_is_word", "_law_is_word", ["thing"], [], N34, false⟩,
  ⟨"_law_fresh", "_law_fresh", ["told", "many"], [], N35, false⟩,
  ⟨"_law_right", "_law_right", ["draw"], [], N36, true⟩,
  ⟨"_law_renamed_right", "_law_renamed_right", ["draw", "told", "yard"], [], N37, false⟩,
  ⟨"_law_limits_right", "_law_limits_right", ["draw"], [], N38, true⟩,
  ⟨"law", "law", ["script"], [], N39, true⟩]
def cls : List ClI := [⟨"Yard", ["y_kinds", "y_tools"], 5, [("kinds", 6), ("tools", 7)], some 8⟩]
def ecs : List EcI := [⟨"YardError", []⟩, ⟨"BadKinds", []⟩, ⟨"BadMany", []⟩, ⟨"BadOther", []⟩, ⟨"BadTools", []⟩, ⟨"BadWord", []⟩, ⟨"BadYard", []⟩]
def gcs : List (Str × D) := [("LETTERS", .str "abcdefghijklmnopqrstuvwxyz"), ("MOST_LETTERS", .int 8), ("MOST_KINDS", .int 40), ("MOST_TOOLS", .int 2), ("MOST_AT_ONCE", .int 4)]
def SH : Shapes := [(0, 1, ([] : List Str)), (1, 3, ([] : List Str)), (2, 1, ([] : List Str)), (3, 1, ([] : List Str)), (4, 3, ([] : List Str)), (5, 1, (["kinds"] : List Str)), (5, 1, (["tools", "kinds"] : List Str)), (5, 2, ([] : List Str)), (5, 3, ([] : List Str)), (9, 1, ([] : List Str)), (10, 2, ([] : List Str)), (11, 2, ([] : List Str)), (12, 3, ([] : List Str)), (13, 0, (["thing"] : List Str)), (13, 1, ([] : List Str)), (14, 3, ([] : List Str)), (15, 0, (["other", "word", "yard"] : List Str)), (15, 3, ([] : List Str)), (16, 2, ([] : List Str)), (17, 0, (["many", "yard"] : List Str)), (17, 2, ([] : List Str)), (18, 1, ([] : List Str)), (19, 2, ([] : List Str)), (20, 1, ([] : List Str)), (21, 0, (["thing", "yard"] : List Str)), (21, 2, ([] : List Str)), (23, 1, ([] : List Str)), (24, 2, ([] : List Str)), (25, 2, ([] : List Str)), (26, 2, ([] : List Str)), (28, 1, ([] : List Str)), (29, 2, ([] : List Str)), (30, 2, ([] : List Str)), (31, 1, ([] : List Str)), (32, 1, ([] : List Str)), (33, 1, ([] : List Str)), (34, 1, ([] : List Str)), (35, 2, ([] : List Str)), (36, 1, ([] : List Str)), (37, 3, ([] : List Str)), (38, 1, ([] : List Str))]
def tbl : List ((Ty × Ty) × Bool) := [((.bi "NoneType", .bi "bool"), false), ((.bi "NoneType", .bi "int"), false), ((.bi "NoneType", .bi "str"), false), ((.bi "NoneType", .bi "tuple"), false), ((.bi "NoneType", .bi "list"), false), ((.bi "NoneType", .bi "dict"), false), ((.bi "NoneType", .cls 0), false), ((.bi "NoneType", .ecl 0), false), ((.bi "NoneType", .ecl 1), false), ((.bi "NoneType", .ecl 2), false), ((.bi "NoneType", .ecl 3), false), ((.bi "NoneType", .ecl 4), false), ((.bi "NoneType", .ecl 5), false), ((.bi "NoneType", .ecl 6), false), ((.bi "bool", .bi "bool"), true), ((.bi "bool", .bi "int"), true), ((.bi "bool", .bi "str"), false), ((.bi "bool", .bi "tuple"), false), ((.bi "bool", .bi "list"), false), ((.bi "bool", .bi "dict"), false), ((.bi "bool", .cls 0), false), ((.bi "bool", .ecl 0), false), ((.bi "bool", .ecl 1), false), ((.bi "bool", .ecl 2), false), ((.bi "bool", .ecl 3), false), ((.bi "bool", .ecl 4), false), ((.bi "bool", .ecl 5), false), ((.bi "bool", .ecl 6), false), ((.bi "int", .bi "bool"), false), ((.bi "int", .bi "int"), true), ((.bi "int", .bi "str"), false), ((.bi "int", .bi "tuple"), false), ((.bi "int", .bi "list"), false), ((.bi "int", .bi "dict"), false), ((.bi "int", .cls 0), false), ((.bi "int", .ecl 0), false), ((.bi "int", .ecl 1), false), ((.bi "int", .ecl 2), false), ((.bi "int", .ecl 3), false), ((.bi "int", .ecl 4), false), ((.bi "int", .ecl 5), false), ((.bi "int", .ecl 6), false), ((.bi "str", .bi "bool"), false), ((.bi "str", .bi "int"), false), ((.bi "str", .bi "str"), true), ((.bi "str", .bi "tuple"), false), ((.bi "str", .bi "list"), false), ((.bi "str", .bi "dict"), false), ((.bi "str", .cls 0), false), ((.bi "str", .ecl 0), false), ((.bi "str", .ecl 1), false), ((.bi "str", .ecl 2), false), ((.bi "str", .ecl 3), false), ((.bi "str", .ecl 4), false), ((.bi "str", .ecl 5), false), ((.bi "str", .ecl 6), false), ((.bi "tuple", .bi "bool"), false), ((.bi "tuple", .bi "int"), false), ((.bi "tuple", .bi "str"), false), ((.bi "tuple", .bi "tuple"), true), ((.bi "tuple", .bi "list"), false), ((.bi "tuple", .bi "dict"), false), ((.bi "tuple", .cls 0), false), ((.bi "tuple", .ecl 0), false), ((.bi "tuple", .ecl 1), false), ((.bi "tuple", .ecl 2), false), ((.bi "tuple", .ecl 3), false), ((.bi "tuple", .ecl 4), false), ((.bi "tuple", .ecl 5), false), ((.bi "tuple", .ecl 6), false), ((.bi "list", .bi "bool"), false), ((.bi "list", .bi "int"), false), ((.bi "list", .bi "str"), false), ((.bi "list", .bi "tuple"), false), ((.bi "list", .bi "list"), true), ((.bi "list", .bi "dict"), false), ((.bi "list", .cls 0), false), ((.bi "list", .ecl 0), false), ((.bi "list", .ecl 1), false), ((.bi "list", .ecl 2), false), ((.bi "list", .ecl 3), false), ((.bi "list", .ecl 4), false), ((.bi "list", .ecl 5), false), ((.bi "list", .ecl 6), false), ((.bi "dict", .bi "bool"), false), ((.bi "dict", .bi "int"), false), ((.bi "dict", .bi "str"), false), ((.bi "dict", .bi "tuple"), false), ((.bi "dict", .bi "list"), false), ((.bi "dict", .bi "dict"), true), ((.bi "dict", .cls 0), false), ((.bi "dict", .ecl 0), false), ((.bi "dict", .ecl 1), false), ((.bi "dict", .ecl 2), false), ((.bi "dict", .ecl 3), false), ((.bi "dict", .ecl 4), false), ((.bi "dict", .ecl 5), false), ((.bi "dict", .ecl 6), false), ((.cls 0, .bi "bool"), false), ((.cls 0, .bi "int"), false), ((.cls 0, .bi "str"), false), ((.cls 0, .bi "tuple"), false), ((.cls 0, .bi "list"), false), ((.cls 0, .bi "dict"), false), ((.cls 0, .cls 0), true), ((.cls 0, .ecl 0), false), ((.cls 0, .ecl 1), false), ((.cls 0, .ecl 2), false), ((.cls 0, .ecl 3), false), ((.cls 0, .ecl 4), false), ((.cls 0, .ecl 5), false), ((.cls 0, .ecl 6), false), ((.ecl 0, .bi "bool"), false), ((.ecl 0, .bi "int"), false), ((.ecl 0, .bi "str"), false), ((.ecl 0, .bi "tuple"), false), ((.ecl 0, .bi "list"), false), ((.ecl 0, .bi "dict"), false), ((.ecl 0, .cls 0), false), ((.ecl 0, .ecl 0), true), ((.ecl 0, .ecl 1), false), ((.ecl 0, .ecl 2), false), ((.ecl 0, .ecl 3), false), ((.ecl 0, .ecl 4), false), ((.ecl 0, .ecl 5), false), ((.ecl 0, .ecl 6), false), ((.ecl 1, .bi "bool"), false), ((.ecl 1, .bi "int"), false), ((.ecl 1, .bi "str"), false), ((.ecl 1, .bi "tuple"), false), ((.ecl 1, .bi "list"), false), ((.ecl 1, .bi "dict"), false), ((.ecl 1, .cls 0), false), ((.ecl 1, .ecl 0), true), ((.ecl 1, .ecl 1), true), ((.ecl 1, .ecl 2), false), ((.ecl 1, .ecl 3), false), ((.ecl 1, .ecl 4), false), ((.ecl 1, .ecl 5), false), ((.ecl 1, .ecl 6), false), ((.ecl 2, .bi "bool"), false), ((.ecl 2, .bi "int"), false), ((.ecl 2, .bi "str"), false), ((.ecl 2, .bi "tuple"), false), ((.ecl 2, .bi "list"), false), ((.ecl 2, .bi "dict"), false), ((.ecl 2, .cls 0), false), ((.ecl 2, .ecl 0), true), ((.ecl 2, .ecl 1), false), ((.ecl 2, .ecl 2), true), ((.ecl 2, .ecl 3), false), ((.ecl 2, .ecl 4), false), ((.ecl 2, .ecl 5), false), ((.ecl 2, .ecl 6), false), ((.ecl 3, .bi "bool"), false), ((.ecl 3, .bi "int"), false), ((.ecl 3, .bi "str"), false), ((.ecl 3, .bi "tuple"), false), ((.ecl 3, .bi "list"), false), ((.ecl 3, .bi "dict"), false), ((.ecl 3, .cls 0), false), ((.ecl 3, .ecl 0), true), ((.ecl 3, .ecl 1), false), ((.ecl 3, .ecl 2), false), ((.ecl 3, .ecl 3), true), ((.ecl 3, .ecl 4), false), ((.ecl 3, .ecl 5), false), ((.ecl 3, .ecl 6), false), ((.ecl 4, .bi "bool"), false), ((.ecl 4, .bi "int"), false), ((.ecl 4, .bi "str"), false), ((.ecl 4, .bi "tuple"), false), ((.ecl 4, .bi "list"), false), ((.ecl 4, .bi "dict"), false), ((.ecl 4, .cls 0), false), ((.ecl 4, .ecl 0), true), ((.ecl 4, .ecl 1), false), ((.ecl 4, .ecl 2), false), ((.ecl 4, .ecl 3), false), ((.ecl 4, .ecl 4), true), ((.ecl 4, .ecl 5), false), ((.ecl 4, .ecl 6), false), ((.ecl 5, .bi "bool"), false), ((.ecl 5, .bi "int"), false), ((.ecl 5, .bi "str"), false), ((.ecl 5, .bi "tuple"), false), ((.ecl 5, .bi "list"), false), ((.ecl 5, .bi "dict"), false), ((.ecl 5, .cls 0), false), ((.ecl 5, .ecl 0), true), ((.ecl 5, .ecl 1), false), ((.ecl 5, .ecl 2), false), ((.ecl 5, .ecl 3), false), ((.ecl 5, .ecl 4), false), ((.ecl 5, .ecl 5), true), ((.ecl 5, .ecl 6), false), ((.ecl 6, .bi "bool"), false), ((.ecl 6, .bi "int"), false), ((.ecl 6, .bi "str"), false), ((.ecl 6, .bi "tuple"), false), ((.ecl 6, .bi "list"), false), ((.ecl 6, .bi "dict"), false), ((.ecl 6, .cls 0), false), ((.ecl 6, .ecl 0), true), ((.ecl 6, .ecl 1), false), ((.ecl 6, .ecl 2), false), ((.ecl 6, .ecl 3), false), ((.ecl 6, .ecl 4), false), ((.ecl 6, .ecl 5), false), ((.ecl 6, .ecl 6), true)]
def P0 : Prg := ⟨fns, cls, ecs, gcs, tblF tbl⟩
end Co
namespace Ck
theorem k0 : chkS.chkB (chkS Co.P0 Co.SH none 60 (Stat.fn Co.N0 (defScope Tx.s0) false none)) Co.c0 (defBody Tx.s0) = true := by decide +kernel
theorem k1 : chkS.chkB (chkS Co.P0 Co.SH none 60 (Stat.fn Co.N1 (defScope Tx.s1) false none)) Co.c1 (defBody Tx.s1) = true := by decide +kernel
theorem k2 : chkS.chkB (chkS Co.P0 Co.SH none 60 (Stat.fn Co.N2 (defScope Tx.s2) false none)) Co.c2 (defBody Tx.s2) = true := by decide +kernel
theorem k3 : chkS.chkB (chkS Co.P0 Co.SH none 60 (Stat.fn Co.N3 (defScope Tx.s3) false none)) Co.c3 (defBody Tx.s3) = true := by decide +kernel
theorem k4 : chkS.chkB (chkS Co.P0 Co.SH none 60 (Stat.fn Co.N4 (defScope Tx.s4) false none)) Co.c4 (defBody Tx.s4) = true := by decide +kernel
theorem k5 : chkS.chkB (chkS Co.P0 Co.SH (some 0) 60 (Stat.fn Co.N5 (defScope Tx.s5) false none)) Co.c5 (defBody Tx.s5) = true := by decide +kernel
theorem k6 : chkS.chkB (chkS Co.P0 Co.SH none 60 (Stat.fn Co.N6 (defScope Tx.s6) false none)) Co.c6 (defBody Tx.s6) = true := by decide +kernel
theorem k7 : chkS.chkB (chkS Co.P0 Co.SH none 60 (Stat.fn Co.N7 (defScope Tx.s7) false none)) Co.c7 (defBody Tx.s7) = true := by decide +kernel
theorem k8 : chkS.chkB (chkS Co.P0 Co.SH none 60 (Stat.fn Co.N8 (defScope Tx.s8) false none)) Co.c8 (defBody Tx.s8) = true := by decide +kernel
theorem k9 : chkS.chkB (chkS Co.P0 Co.SH none 60 (Stat.fn Co.N9 (defScope Tx.s9) false none)) Co.c9 (defBody Tx.s9) = true := by decide +kernel
theorem k10 : chkS.chkB (chkS Co.P0 Co.SH none 60 (Stat.fn Co.N10 (defScope Tx.s10) false none)) Co.c10 (defBody Tx.s10) = true := by decide +kernel
theorem k11 : chkS.chkB (chkS Co.P0 Co.SH none 60 (Stat.fn Co.N11 (defScope Tx.s11) false none)) Co.c11 (defBody Tx.s11) = true := by decide +kernel
theorem k12 : chkS.chkB (chkS Co.P0 Co.SH none 60 (Stat.fn Co.N12 (defScope Tx.s12) false none)) Co.c12 (defBody Tx.s12) = true := by decide +kernel
theorem k13 : chkS.chkB (chkS Co.P0 Co.SH none 60 (Stat.fn Co.N13 (defScope Tx.s13) false none)) Co.c13 (defBody Tx.s13) = true := by decide +kernel
theorem k14 : chkS.chkB (chkS Co.P0 Co.SH none 60 (Stat.fn Co.N14 (defScope Tx.s14) false none)) Co.c14 (defBody Tx.s14) = true := by decide +kernel
theorem k15 : chkS.chkB (chkS Co.P0 Co.SH none 60 (Stat.fn Co.N15 (defScope Tx.s15) false none)) Co.c15 (defBody Tx.s15) = true := by decide +kernel
theorem k16 : chkS.chkB (chkS Co.P0 Co.SH none 60 (Stat.fn Co.N16 (defScope Tx.s16) false none)) Co.c16 (defBody Tx.s16) = true := by decide +kernel
theorem k17 : chkS.chkB (chkS Co.P0 Co.SH none 60 (Stat.fn Co.N17 (defScope Tx.s17) false none)) Co.c17 (defBody Tx.s17) = true := by decide +kernel
theorem k18 : chkS.chkB (chkS Co.P0 Co.SH none 60 (Stat.fn Co.N18 (defScope Tx.s18) false none)) Co.c18 (defBody Tx.s18) = true := by decide +kernel
theorem k19 : chkS.chkB (chkS Co.P0 Co.SH none 60 (Stat.fn Co.N19 (defScope Tx.s19) false none)) Co.c19 (defBody Tx.s19) = true := by decide +kernel
theorem k20 : chkS.chkB (chkS Co.P0 Co.SH none 60 (Stat.fn Co.N20 (defScope Tx.s20) false none)) Co.c20 (defBody Tx.s20) = true := by decide +kernel
theorem k21 : chkS.chkB (chkS Co.P0 Co.SH none 60 (Stat.fn Co.N21 (defScope Tx.s21) false none)) Co.c21 (defBody Tx.s21) = true := by decide +kernel
theorem k23 : chkS.chkB (chkS Co.P0 Co.SH none 60 (Stat.fn Co.N23 (defScope Tx.s23) false none)) Co.c23 (defBody Tx.s23) = true := by decide +kernel
theorem k24 : chkS.chkB (chkS Co.P0 Co.SH none 60 (Stat.fn Co.N24 (defScope Tx.s24) false none)) Co.c24 (defBody Tx.s24) = true := by decide +kernel
theorem k25 : chkS.chkB (chkS Co.P0 Co.SH none 60 (Stat.fn Co.N25 (defScope Tx.s25) false none)) Co.c25 (defBody Tx.s25) = true := by decide +kernel
theorem k26 : chkS.chkB (chkS Co.P0 Co.SH none 60 (Stat.fn Co.N26 (defScope Tx.s26) false none)) Co.c26 (defBody Tx.s26) = true := by decide +kernel
theorem k28 : chkS.chkB (chkS Co.P0 Co.SH none 60 (Stat.fn Co.N28 (defScope Tx.s28) true none)) Co.c28 (defBody Tx.s28) = true := by decide +kernel
theorem k29 : chkS.chkB (chkS Co.P0 Co.SH none 60 (Stat.fn Co.N29 (defScope Tx.s29) true none)) Co.c29 (defBody Tx.s29) = true := by decide +kernel
theorem k30 : chkS.chkB (chkS Co.P0 Co.SH none 60 (Stat.fn Co.N30 (defScope Tx.s30) false none)) Co.c30 (defBody Tx.s30) = true := by decide +kernel
theorem k31 : chkS.chkB (chkS Co.P0 Co.SH none 60 (Stat.fn Co.N31 (defScope Tx.s31) false none)) Co.c31 (defBody Tx.s31) = true := by decide +kernel
theorem k32 : chkS.chkB (chkS Co.P0 Co.SH none 60 (Stat.fn Co.N32 (defScope Tx.s32) false none)) Co.c32 (defBody Tx.s32) = true := by decide +kernel
theorem k33 : chkS.chkB (chkS Co.P0 Co.SH none 60 (Stat.fn Co.N33 (defScope Tx.s33) false none)) Co.c33 (defBody Tx.s33) = true := by decide +kernel
theorem k34 : chkS.chkB (chkS Co.P0 Co.SH none 60 (Stat.fn Co.N34 (defScope Tx.s34) false none)) Co.c34 (defBody Tx.s34) = true := by decide +kernel
theorem k35 : chkS.chkB (chkS Co.P0 Co.SH none 60 (Stat.fn Co.N35 (defScope Tx.s35) false none)) Co.c35 (defBody Tx.s35) = true := by decide +kernel
theorem k36 : chkS.chkB (chkS Co.P0 Co.SH none 60 (Stat.fn Co.N36 (defScope Tx.s36) true none)) Co.c36 (defBody Tx.s36) = true := by decide +kernel
theorem k37 : chkS.chkB (chkS Co.P0 Co.SH none 60 (Stat.fn Co.N37 (defScope Tx.s37) false (some "_law_caught"))) Co.c37 (defBody Tx.s37) = true := by decide +kernel
theorem k38 : chkS.chkB (chkS Co.P0 Co.SH none 60 (Stat.fn Co.N38 (defScope Tx.s38) true (some "_law_caught"))) Co.c38 (defBody Tx.s38) = true := by decide +kernel
theorem kB : begunB Co.P0 Co.SH (Stat.fn Co.N22 (defScope Tx.s22) false none) (defBody Tx.s22) = true := by decide +kernel
theorem kL : lawB Co.P0 Co.SH (Stat.fn Co.N39 (defScope Tx.s39) true none) Co.cL (defBody Tx.s39) = true := by decide +kernel
end Ck
/-! ### the defs -/
namespace De
def d0 : DfA := ⟨fun K => He.ga K "is_number", "is_number", "is_number", defArgs Tx.s0, defBody Tx.s0, defScope Tx.s0, [], []⟩
def d1 : DfA := ⟨fun K => He.ga K "is_between", "is_between", "is_between", defArgs Tx.s1, defBody Tx.s1, defScope Tx.s1, [], []⟩
def d2 : DfA := ⟨fun K => He.ga K "is_list", "is_list", "is_list", defArgs Tx.s2, defBody Tx.s2, defScope Tx.s2, [], []⟩
def d3 : DfA := ⟨fun K => He.ga K "is_plain_word", "is_plain_word", "is_plain_word", defArgs Tx.s3, defBody Tx.s3, defScope Tx.s3, [], []⟩
def d4 : DfA := ⟨fun K => He.ga K "are_unlike_words", "are_unlike_words", "are_unlike_words", defArgs Tx.s4, defBody Tx.s4, defScope Tx.s4, [], []⟩
def d5 : DfA := ⟨fun K => He.ma K (He.ga K "Yard") "__init__", "__init__", "Yard.__init__", defArgs Tx.s5, defBody Tx.s5, defScope Tx.s5, [.adr (He.dflAt ("Yard", some "__init__") 0)], []⟩
def d6 : DfA := ⟨fun K => propAt K (He.ga K "Yard") "kinds", "kinds", "Yard.kinds", defArgs Tx.s6, defBody Tx.s6, defScope Tx.s6, [], []⟩
def d7 : DfA := ⟨fun K => propAt K (He.ga K "Yard") "tools", "tools", "Yard.tools", defArgs Tx.s7, defBody Tx.s7, defScope Tx.s7, [], []⟩
def d8 : DfA := ⟨fun K => He.ma K (He.ga K "Yard") "__eq__", "__eq__", "Yard.__eq__", defArgs Tx.s8, defBody Tx.s8, defScope Tx.s8, [], []⟩
def d9 : DfA := ⟨fun K => He.ga K "need_yard", "need_yard", "need_yard", defArgs Tx.s9, defBody Tx.s9, defScope Tx.s9, [], []⟩
def d10 : DfA := ⟨fun K => He.ga K "is_kind", "is_kind", "is_kind", defArgs Tx.s10, defBody Tx.s10, defScope Tx.s10, [], []⟩
def d11 : DfA := ⟨fun K => He.ga K "is_tool", "is_tool", "is_tool", defArgs Tx.s11, defBody Tx.s11, defScope Tx.s11, [], []⟩
def d12 : DfA := ⟨fun K => He.ga K "need_renaming", "need_renaming", "need_renaming", defArgs Tx.s12, defBody Tx.s12, defScope Tx.s12, [], []⟩
def d13 : DfA := ⟨fun K => He.ga K "is_word", "is_word", "is_word", defArgs Tx.s13, defBody Tx.s13, defScope Tx.s13, [], []⟩
def d14 : DfA := ⟨fun K => He.ga K "renamed_of", "renamed_of", "renamed_of", defArgs Tx.s14, defBody Tx.s14, defScope Tx.s14, [], []⟩
def d15 : DfA := ⟨fun K => He.ga K "renamed_yard", "renamed_yard", "renamed_yard", defArgs Tx.s15, defBody Tx.s15, defScope Tx.s15, [], []⟩
def d16 : DfA := ⟨fun K => He.ga K "fresh_of", "fresh_of", "fresh_of", defArgs Tx.s16, defBody Tx.s16, defScope Tx.s16, [], []⟩
def d17 : DfA := ⟨fun K => He.ga K "fresh_words", "fresh_words", "fresh_words", defArgs Tx.s17, defBody Tx.s17, defScope Tx.s17, [], []⟩
def d18 : DfA := ⟨fun K => He.ga K "events_of", "events_of", "events_of", defArgs Tx.s18, defBody Tx.s18, defScope Tx.s18, [], []⟩
def d19 : DfA := ⟨fun K => He.ga K "is_event_of", "is_event_of", "is_event_of", defArgs Tx.s19, defBody Tx.s19, defScope Tx.s19, [], []⟩
def d20 : DfA := ⟨fun K => He.ga K "events", "events", "events", defArgs Tx.s20, defBody Tx.s20, defScope Tx.s20, [], []⟩
def d21 : DfA := ⟨fun K => He.ga K "is_event", "is_event", "is_event", defArgs Tx.s21, defBody Tx.s21, defScope Tx.s21, [], []⟩
def d22 : DfA := ⟨fun K => He.ga K "_law_begun", "_law_begun", "_law_begun", defArgs Tx.s22, defBody Tx.s22, defScope Tx.s22, [], []⟩
def d23 : DfA := ⟨fun K => He.ga K "_law_mixed", "_law_mixed", "_law_mixed", defArgs Tx.s23, defBody Tx.s23, defScope Tx.s23, [], []⟩
def d24 : DfA := ⟨fun K => He.ga K "_law_take", "_law_take", "_law_take", defArgs Tx.s24, defBody Tx.s24, defScope Tx.s24, [], []⟩
def d25 : DfA := ⟨fun K => He.ga K "_law_pick", "_law_pick", "_law_pick", defArgs Tx.s25, defBody Tx.s25, defScope Tx.s25, [], []⟩
def d26 : DfA := ⟨fun K => He.ga K "_law_shuffled", "_law_shuffled", "_law_shuffled", defArgs Tx.s26, defBody Tx.s26, defScope Tx.s26, [], []⟩
def d27 : DfA := ⟨fun K => He.ga K "_law_caught", "_law_caught", "_law_caught", defArgs Tx.s27, defBody Tx.s27, defScope Tx.s27, [], []⟩
def d28 : DfA := ⟨fun K => He.ga K "_law_kinds", "_law_kinds", "_law_kinds", defArgs Tx.s28, defBody Tx.s28, defScope Tx.s28, [], []⟩
def d29 : DfA := ⟨fun K => He.ga K "_law_says", "_law_says", "_law_says", defArgs Tx.s29, defBody Tx.s29, defScope Tx.s29, [], []⟩
def d30 : DfA := ⟨fun K => He.ga K "_law_told", "_law_told", "_law_told", defArgs Tx.s30, defBody Tx.s30, defScope Tx.s30, [], []⟩
def d31 : DfA := ⟨fun K => He.ga K "_law_yard", "_law_yard", "_law_yard", defArgs Tx.s31, defBody Tx.s31, defScope Tx.s31, [], []⟩
def d32 : DfA := ⟨fun K => He.ga K "_law_events", "_law_events", "_law_events", defArgs Tx.s32, defBody Tx.s32, defScope Tx.s32, [], []⟩
def d33 : DfA := ⟨fun K => He.ga K "_law_many_words", "_law_many_words", "_law_many_words", defArgs Tx.s33, defBody Tx.s33, defScope Tx.s33, [], []⟩
def d34 : DfA := ⟨fun K => He.ga K "_law_is_word", "_law_is_word", "_law_is_word", defArgs Tx.s34, defBody Tx.s34, defScope Tx.s34, [], []⟩
def d35 : DfA := ⟨fun K => He.ga K "_law_fresh", "_law_fresh", "_law_fresh", defArgs Tx.s35, defBody Tx.s35, defScope Tx.s35, [], []⟩
def d36 : DfA := ⟨fun K => He.ga K "_law_right", "_law_right", "_law_right", defArgs Tx.s36, defBody Tx.s36, defScope Tx.s36, [], []⟩
def d37 : DfA := ⟨fun K => He.ga K "_law_renamed_right", "_law_renamed_right", "_law_renamed_right", defArgs Tx.s37, defBody Tx.s37, defScope Tx.s37, [], []⟩
def d38 : DfA := ⟨fun K => He.ga K "_law_limits_right", "_law_limits_right", "_law_limits_right", defArgs Tx.s38, defBody Tx.s38, defScope Tx.s38, [], []⟩
def d39 : DfA := ⟨fun K => He.ga K "law", "law", "law", defArgs Tx.s39, defBody Tx.s39, defScope Tx.s39, [], []⟩
def all : List DfA := [d0, d1, d2, d3, d4, d5, d6, d7, d8, d9, d10, d11, d12, d13, d14, d15, d16, d17, d18, d19, d20, d21, d22, d23, d24, d25, d26, d27, d28, d29, d30, d31, d32, d33, d34, d35, d36, d37, d38, d39]
def f (i : Nat) : FnI := Co.fns.getD i ⟨Str.empty, Str.empty, [], [], [], false⟩
theorem sh0 {K : Frg} {fd : FuncData} (F : FdA K d0 fd) : Shp K (f 0) fd 1 [] := shp0 F rfl fun kV doc pm an cdv ct us ws full l1 l2 e => by
  match us, ws, l1, l2, e with
  | [u0], [], _, _, e =>
    have e2 : full = [u0] := Option.some.inj (e.symm.trans rfl)
    subst e2; rfl
theorem sh1 {K : Frg} {fd : FuncData} (F : FdA K d1 fd) : Shp K (f 1) fd 3 [] := shp0 F rfl fun kV doc pm an cdv ct us ws full l1 l2 e => by
  match us, ws, l1, l2, e with
  | [u0, u1, u2], [], _, _, e =>
    have e2 : full = [u0, u1, u2] := Option.some.inj (e.symm.trans rfl)
    subst e2; rfl
theorem sh2 {K : Frg} {fd : FuncData} (F : FdA K d2 fd) : Shp K (f 2) fd 1 [] := shp0 F rfl fun kV doc pm an cdv ct us ws full l1 l2 e => by
  match us, ws, l1, l2, e with
  | [u0], [], _, _, e =>
    have e2 : full = [u0] := Option.some.inj (e.symm.trans rfl)
    subst e2; rfl
theorem sh3 {K : Frg} {fd : FuncData} (F : FdA K d3 fd) : Shp K (f 3) fd 1 [] := shp0 F rfl fun kV doc pm an cdv ct us ws full l1 l2 e => by
  match us, ws, l1, l2, e with
  | [u0], [], _, _, e =>
    have e2 : full = [u0] := Option.some.inj (e.symm.trans rfl)
    subst e2; rfl
theorem sh4 {K : Frg} {fd : FuncData} (F : FdA K d4 fd) : Shp K (f 4) fd 3 [] := shp0 F rfl fun kV doc pm an cdv ct us ws full l1 l2 e => by
  match us, ws, l1, l2, e with
  | [u0, u1, u2], [], _, _, e =>
    have e2 : full = [u0, u1, u2] := Option.some.inj (e.symm.trans rfl)
    subst e2; rfl
theorem sh5 {K : Frg} {fd : FuncData} (F : FdA K d5 fd) (hf : ∀ (G : G) (B : Bar) (H : Hp), G.K = K → DenL G B H (f 5).dfl (d5.dvs K)) : Shp K (f 5) fd 1 ["kinds"] := shpD F (fun e => nomatch e) hf fun T kV doc pm an cdv ct us ws its full l1 l2 l3 e => by
  match us, ws, its, l1, l2, l3, e with
  | [u0], [w0], [i0], _, _, _, e =>
    have e2 : full = [u0, w0, i0] := Option.some.inj (e.symm.trans rfl)
    subst e2; exact ⟨_, rfl, rfl⟩
theorem sh6 {K : Frg} {fd : FuncData} (F : FdA K d5 fd) (hf : ∀ (G : G) (B : Bar) (H : Hp), G.K = K → DenL G B H (f 5).dfl (d5.dvs K)) : Shp K (f 5) fd 1 ["tools", "kinds"] := shpD F (fun e => nomatch e) hf fun T kV doc pm an cdv ct us ws its full l1 l2 l3 e => by
  match us, ws, its, l1, l2, l3, e with
  | [u0], [w0, w1], [i0], _, _, _, e =>
    have e2 : full = [u0, w1, w0] := Option.some.inj (e.symm.trans rfl)
    subst e2; exact ⟨_, rfl, rfl⟩
theorem sh7 {K : Frg} {fd : FuncData} (F : FdA K d5 fd) (hf : ∀ (G : G) (B : Bar) (H : Hp), G.K = K → DenL G B H (f 5).dfl (d5.dvs K)) : Shp K (f 5) fd 2 [] := shpD F (fun e => nomatch e) hf fun T kV doc pm an cdv ct us ws its full l1 l2 l3 e => by
  match us, ws, its, l1, l2, l3, e with
  | [u0, u1], [], [i0], _, _, _, e =>
    have e2 : full = [u0, u1, i0] := Option.some.inj (e.symm.trans rfl)
    subst e2; exact ⟨_, rfl, rfl⟩
theorem sh8 {K : Frg} {fd : FuncData} (F : FdA K d5 fd) (hf : ∀ (G : G) (B : Bar) (H : Hp), G.K = K → DenL G B H (f 5).dfl (d5.dvs K)) : Shp K (f 5) fd 3 [] := shpD F (fun e => nomatch e) hf fun T kV doc pm an cdv ct us ws its full l1 l2 l3 e => by
  match us, ws, its, l1, l2, l3, e with
  | [u0, u1, u2], [], [i0], _, _, _, e =>
    have e2 : full = [u0, u1, u2] := Option.some.inj (e.symm.trans rfl)
    subst e2; exact ⟨_, rfl, rfl⟩
theorem sh9 {K : Frg} {fd : FuncData} (F : FdA K d9 fd) : Shp K (f 9) fd 1 [] := shp0 F rfl fun kV doc pm an cdv ct us ws full l1 l2 e => by
  match us, ws, l1, l2, e with
  | [u0], [], _, _, e =>
    have e2 : full = [u0] := Option.some.inj (e.symm.trans rfl)
    subst e2; rfl
theorem sh10 {K : Frg} {fd : FuncData} (F : FdA K d10 fd) : Shp K (f 10) fd 2 [] := shp0 F rfl fun kV doc pm an cdv ct us ws full l1 l2 e => by
  match us, ws, l1, l2, e with
  | [u0, u1], [], _, _, e =>
    have e2 : full = [u0, u1] := Option.some.inj (e.symm.trans rfl)
    subst e2; rfl
theorem sh11 {K : Frg} {fd : FuncData} (F : FdA K d11 fd) : Shp K (f 11) fd 2 [] := shp0 F rfl fun kV doc pm an cdv ct us ws full l1 l2 e => by
  match us, ws, l1, l2, e with
  | [u0, u1], [], _, _, e =>
    have e2 : full = [u0, u1] := Option.some.inj (e.symm.trans rfl)
    subst e2; rfl
theorem sh12 {K : Frg} {fd : FuncData} (F : FdA K d12 fd) : Shp K (f 12) fd 3 [] := shp0 F rfl fun kV doc pm an cdv ct us ws full l1 l2 e => by
  match us, ws, l1, l2, e with
  | [u0, u1, u2], [], _, _, e =>
    have e2 : full = [u0, u1, u2] := Option.some.inj (e.symm.trans rfl)
    subst e2; rfl
theorem sh13 {K : Frg} {fd : FuncData} (F : FdA K d13 fd) : Shp K (f 13) fd 0 ["thing"] := shp0 F rfl fun kV doc pm an cdv ct us ws full l1 l2 e => by
  match us, ws, l1, l2, e with
  | [], [w0], _, _, e =>
    have e2 : full = [w0] := Option.some.inj (e.symm.trans rfl)
    subst e2; rfl
theorem sh14 {K : Frg} {fd : FuncData} (F : FdA K d13 fd) : Shp K (f 13) fd 1 [] := shp0 F rfl fun kV doc pm an cdv ct us ws full l1 l2 e => by
  match us, ws, l1, l2, e with
  | [u0], [], _, _, e =>
    have e2 : full = [u0] := Option.some.inj (e.symm.trans rfl)
    subst e2; rfl
theorem sh15 {K : Frg} {fd : FuncData} (F : FdA K d14 fd) : Shp K (f 14) fd 3 [] := shp0 F rfl fun kV doc pm an cdv ct us ws full l1 l2 e => by
  match us, ws, l1, l2, e with
  | [u0, u1, u2], [], _, _, e =>
    have e2 : full = [u0, u1, u2] := Option.some.inj (e.symm.trans rfl)
    subst e2; rfl
theorem sh16 {K : Frg} {fd : FuncData} (F : FdA K d15 fd) : Shp K (f 15) fd 0 ["other", "word", "yard"] := shp0 F rfl fun kV doc pm an cdv ct us ws full l1 l2 e => by
  match us, ws, l1, l2, e with
  | [], [w0, w1, w2], _, _, e =>
    have e2 : full = [w2, w1, w0] := Option.some.inj (e.symm.trans rfl)
    subst e2; rfl
theorem sh17 {K : Frg} {fd : FuncData} (F : FdA K d15 fd) : Shp K (f 15) fd 3 [] := shp0 F rfl fun kV doc pm an cdv ct us ws full l1 l2 e => by
  match us, ws, l1, l2, e with
  | [u0, u1, u2], [], _, _, e =>
    have e2 : full = [u0, u1, u2] := Option.some.inj (e.symm.trans rfl)
    subst e2; rfl
theorem sh18 {K : Frg} {fd : FuncData} (F : FdA K d16 fd) : Shp K (f 16) fd 2 [] := shp0 F rfl fun kV doc pm an cdv ct us ws full l1 l2 e => by
  match us, ws, l1, l2, e with
  | [u0, u1], [], _, _, e =>
    have e2 : full = [u0, u1] := Option.some.inj (e.symm.trans rfl)
    subst e2; rfl
theorem sh19 {K : Frg} {fd : FuncData} (F : FdA K d17 fd) : Shp K (f 17) fd 0 ["many", "yard"] := shp0 F rfl fun kV doc pm an cdv ct us ws full l1 l2 e => by
  match us, ws, l1, l2, e with
  | [], [w0, w1], _, _, e =>
    have e2 : full = [w1, w0] := Option.some.inj (e.symm.trans rfl)
    subst e2; rfl
theorem sh20 {K : Frg} {fd : FuncData} (F : FdA K d17 fd) : Shp K (f 17) fd 2 [] := shp0 F rfl fun kV doc pm an cdv ct us ws full l1 l2 e => by
  match us, ws, l1, l2, e with
  | [u0, u1], [], _, _, e =>
    have e2 : full = [u0, u1] := Option.some.inj (e.symm.trans rfl)
    subst e2; rfl
theorem sh21 {K : Frg} {fd : FuncData} (F : FdA K d18 fd) : Shp K (f 18) fd 1 [] := shp0 F rfl fun kV doc pm an cdv ct us ws full l1 l2 e => by
  match us, ws, l1, l2, e with
  | [u0], [], _, _, e =>
    have e2 : full = [u0] := Option.some.inj (e.symm.trans rfl)
    subst e2; rfl
theorem sh22 {K : Frg} {fd : FuncData} (F : FdA K d19 fd) : Shp K (f 19) fd 2 [] := shp0 F rfl fun kV doc pm an cdv ct us ws full l1 l2 e => by
  match us, ws, l1, l2, e with
  | [u0, u1], [], _, _, e =>
    have e2 : full = [u0, u1] := Option.some.inj (e.symm.trans rfl)
    subst e2; rfl
theorem sh23 {K : Frg} {fd : FuncData} (F : FdA K d20 fd) : Shp K (f 20) fd 1 [] := shp0 F rfl fun kV doc pm an cdv ct us ws full l1 l2 e => by
  match us, ws, l1, l2, e with
  | [u0], [], _, _, e =>
    have e2 : full = [u0] := Option.some.inj (e.symm.trans rfl)
    subst e2; rfl
theorem sh24 {K : Frg} {fd : FuncData} (F : FdA K d21 fd) : Shp K (f 21) fd 0 ["thing", "yard"] := shp0 F rfl fun kV doc pm an cdv ct us ws full l1 l2 e => by
  match us, ws, l1, l2, e with
  | [], [w0, w1], _, _, e =>
    have e2 : full = [w1, w0] := Option.some.inj (e.symm.trans rfl)
    subst e2; rfl
theorem sh25 {K : Frg} {fd : FuncData} (F : FdA K d21 fd) : Shp K (f 21) fd 2 [] := shp0 F rfl fun kV doc pm an cdv ct us ws full l1 l2 e => by
  match us, ws, l1, l2, e with
  | [u0, u1], [], _, _, e =>
    have e2 : full = [u0, u1] := Option.some.inj (e.symm.trans rfl)
    subst e2; rfl
theorem sh26 {K : Frg} {fd : FuncData} (F : FdA K d23 fd) : Shp K (f 23) fd 1 [] := shp0 F rfl fun kV doc pm an cdv ct us ws full l1 l2 e => by
  match us, ws, l1, l2, e with
  | [u0], [], _, _, e =>
    have e2 : full = [u0] := Option.some.inj (e.symm.trans rfl)
    subst e2; rfl
theorem sh27 {K : Frg} {fd : FuncData} (F : FdA K d24 fd) : Shp K (f 24) fd 2 [] := shp0 F rfl fun kV doc pm an cdv ct us ws full l1 l2 e => by
  match us, ws, l1, l2, e with
  | [u0, u1], [], _, _, e =>
    have e2 : full = [u0, u1] := Option.some.inj (e.symm.trans rfl)
    subst e2; rfl
theorem sh28 {K : Frg} {fd : FuncData} (F : FdA K d25 fd) : Shp K (f 25) fd 2 [] := shp0 F rfl fun kV doc pm an cdv ct us ws full l1 l2 e => by
  match us, ws, l1, l2, e with
  | [u0, u1], [], _, _, e =>
    have e2 : full = [u0, u1] := Option.some.inj (e.symm.trans rfl)
    subst e2; rfl
theorem sh29 {K : Frg} {fd : FuncData} (F : FdA K d26 fd) : Shp K (f 26) fd 2 [] := shp0 F rfl fun kV doc pm an cdv ct us ws full l1 l2 e => by
  match us, ws, l1, l2, e with
  | [u0, u1], [], _, _, e =>
    have e2 : full = [u0, u1] := Option.some.inj (e.symm.trans rfl)
    subst e2; rfl
theorem sh30 {K : Frg} {fd : FuncData} (F : FdA K d28 fd) : Shp K (f 28) fd 1 [] := shp0 F rfl fun kV doc pm an cdv ct us ws full l1 l2 e => by
  match us, ws, l1, l2, e with
  | [u0], [], _, _, e =>
    have e2 : full = [u0] := Option.some.inj (e.symm.trans rfl)
    subst e2; rfl
theorem sh31 {K : Frg} {fd : FuncData} (F : FdA K d29 fd) : Shp K (f 29) fd 2 [] := shp0 F rfl fun kV doc pm an cdv ct us ws full l1 l2 e => by
  match us, ws, l1, l2, e with
  | [u0, u1], [], _, _, e =>
    have e2 : full = [u0, u1] := Option.some.inj (e.symm.trans rfl)
    subst e2; rfl
theorem sh32 {K : Frg} {fd : FuncData} (F : FdA K d30 fd) : Shp K (f 30) fd 2 [] := shp0 F rfl fun kV doc pm an cdv ct us ws full l1 l2 e => by
  match us, ws, l1, l2, e with
  | [u0, u1], [], _, _, e =>
    have e2 : full = [u0, u1] := Option.some.inj (e.symm.trans rfl)
    subst e2; rfl
theorem sh33 {K : Frg} {fd : FuncData} (F : FdA K d31 fd) : Shp K (f 31) fd 1 [] := shp0 F rfl fun kV doc pm an cdv ct us ws full l1 l2 e => by
  match us, ws, l1, l2, e with
  | [u0], [], _, _, e =>
    have e2 : full = [u0] := Option.some.inj (e.symm.trans rfl)
    subst e2; rfl
theorem sh34 {K : Frg} {fd : FuncData} (F : FdA K d32 fd) : Shp K (f 32) fd 1 [] := shp0 F rfl fun kV doc pm an cdv ct us ws full l1 l2 e => by
  match us, ws, l1, l2, e with
  | [u0], [], _, _, e =>
    have e2 : full = [u0] := Option.some.inj (e.symm.trans rfl)
    subst e2; rfl
theorem sh35 {K : Frg} {fd : FuncData} (F : FdA K d33 fd) : Shp K (f 33) fd 1 [] := shp0 F rfl fun kV doc pm an cdv ct us ws full l1 l2 e => by
  match us, ws, l1, l2, e with
  | [u0], [], _, _, e =>
    have e2 : full = [u0] := Option.some.inj (e.symm.trans rfl)
    subst e2; rfl
theorem sh36 {K : Frg} {fd : FuncData} (F : FdA K d34 fd) : Shp K (f 34) fd 1 [] := shp0 F rfl fun kV doc pm an cdv ct us ws full l1 l2 e => by
  match us, ws, l1, l2, e with
  | [u0], [], _, _, e =>
    have e2 : full = [u0] := Option.some.inj (e.symm.trans rfl)
    subst e2; rfl
theorem sh37 {K : Frg} {fd : FuncData} (F : FdA K d35 fd) : Shp K (f 35) fd 2 [] := shp0 F rfl fun kV doc pm an cdv ct us ws full l1 l2 e => by
  match us, ws, l1, l2, e with
  | [u0, u1], [], _, _, e =>
    have e2 : full = [u0, u1] := Option.some.inj (e.symm.trans rfl)
    subst e2; rfl
theorem sh38 {K : Frg} {fd : FuncData} (F : FdA K d36 fd) : Shp K (f 36) fd 1 [] := shp0 F rfl fun kV doc pm an cdv ct us ws full l1 l2 e => by
  match us, ws, l1, l2, e with
  | [u0], [], _, _, e =>
    have e2 : full = [u0] := Option.some.inj (e.symm.trans rfl)
    subst e2; rfl
theorem sh39 {K : Frg} {fd : FuncData} (F : FdA K d37 fd) : Shp K (f 37) fd 3 [] := shp0 F rfl fun kV doc pm an cdv ct us ws full l1 l2 e => by
  match us, ws, l1, l2, e with
  | [u0, u1, u2], [], _, _, e =>
    have e2 : full = [u0, u1, u2] := Option.some.inj (e.symm.trans rfl)
    subst e2; rfl
theorem sh40 {K : Frg} {fd : FuncData} (F : FdA K d38 fd) : Shp K (f 38) fd 1 [] := shp0 F rfl fun kV doc pm an cdv ct us ws full l1 l2 e => by
  match us, ws, l1, l2, e with
  | [u0], [], _, _, e =>
    have e2 : full = [u0] := Option.some.inj (e.symm.trans rfl)
    subst e2; rfl
theorem bi0 {K : Frg} {fd : FuncData} (F : FdA K d0 fd) : Binds K fd (f 0).ps [] := binds0 F fun kV doc pm an cdv ct us l1 => by
  match us, l1 with
  | [u0], _ => rfl
theorem sc0 : FnScope (f 0).N (f 0).ps d0.scope := ⟨rfl, rfl, rfl, by decide +kernel, by decide +kernel, by decide +kernel, by decide +kernel⟩
theorem bi1 {K : Frg} {fd : FuncData} (F : FdA K d1 fd) : Binds K fd (f 1).ps [] := binds0 F fun kV doc pm an cdv ct us l1 => by
  match us, l1 with
  | [u0, u1, u2], _ => rfl
theorem sc1 : FnScope (f 1).N (f 1).ps d1.scope := ⟨rfl, rfl, rfl, by decide +kernel, by decide +kernel, by decide +kernel, by decide +kernel⟩
theorem bi2 {K : Frg} {fd : FuncData} (F : FdA K d2 fd) : Binds K fd (f 2).ps [] := binds0 F fun kV doc pm an cdv ct us l1 => by
  match us, l1 with
  | [u0], _ => rfl
theorem sc2 : FnScope (f 2).N (f 2).ps d2.scope := ⟨rfl, rfl, rfl, by decide +kernel, by decide +kernel, by decide +kernel, by decide +kernel⟩
theorem bi3 {K : Frg} {fd : FuncData} (F : FdA K d3 fd) : Binds K fd (f 3).ps [] := binds0 F fun kV doc pm an cdv ct us l1 => by
  match us, l1 with
  | [u0], _ => rfl
theorem sc3 : FnScope (f 3).N (f 3).ps d3.scope := ⟨rfl, rfl, rfl, by decide +kernel, by decide +kernel, by decide +kernel, by decide +kernel⟩
theorem bi4 {K : Frg} {fd : FuncData} (F : FdA K d4 fd) : Binds K fd (f 4).ps [] := binds0 F fun kV doc pm an cdv ct us l1 => by
  match us, l1 with
  | [u0, u1, u2], _ => rfl
theorem sc4 : FnScope (f 4).N (f 4).ps d4.scope := ⟨rfl, rfl, rfl, by decide +kernel, by decide +kernel, by decide +kernel, by decide +kernel⟩
theorem bi5 {K : Frg} {fd : FuncData} (F : FdA K d5 fd) : Binds K fd (f 5).ps [] := bindsD F (fun e => nomatch e) fun T kV doc pm an cdv ct us its l1 l3 => by
  match us, its, l1, l3 with
  | [u0, u1, u2], [i0], _, _ => exact ⟨_, rfl, rfl⟩
theorem sc5 : FnScope (f 5).N (f 5).ps d5.scope := ⟨rfl, rfl, rfl, by decide +kernel, by decide +kernel, by decide +kernel, by decide +kernel⟩
theorem bi6 {K : Frg} {fd : FuncData} (F : FdA K d6 fd) : Binds K fd (f 6).ps [] := binds0 F fun kV doc pm an cdv ct us l1 => by
  match us, l1 with
  | [u0], _ => rfl
theorem sc6 : FnScope (f 6).N (f 6).ps d6.scope := ⟨rfl, rfl, rfl, by decide +kernel, by decide +kernel, by decide +kernel, by decide +kernel⟩
theorem bi7 {K : Frg} {fd : FuncData} (F : FdA K d7 fd) : Binds K fd (f 7).ps [] := binds0 F fun kV doc pm an cdv ct us l1 => by
  match us, l1 with
  | [u0], _ => rfl
theorem sc7 : FnScope (f 7).N (f 7).ps d7.scope := ⟨rfl, rfl, rfl, by decide +kernel, by decide +kernel, by decide +kernel, by decide +kernel⟩
theorem bi8 {K : Frg} {fd : FuncData} (F : FdA K d8 fd) : Binds K fd (f 8).ps [] := binds0 F fun kV doc pm an cdv ct us l1 => by
  match us, l1 with
  | [u0, u1], _ => rfl
theorem sc8 : FnScope (f 8).N (f 8).ps d8.scope := ⟨rfl, rfl, rfl, by decide +kernel, by decide +kernel, by decide +kernel, by decide +kernel⟩
theorem bi9 {K : Frg} {fd : FuncData} (F : FdA K d9 fd) : Binds K fd (f 9).ps [] := binds0 F fun kV doc pm an cdv ct us l1 => by
  match us, l1 with
  | [u0], _ => rfl
theorem sc9 : FnScope (f 9).N (f 9).ps d9.scope := ⟨rfl, rfl, rfl, by decide +kernel, by decide +kernel, by decide +kernel, by decide +kernel⟩
theorem bi10 {K : Frg} {fd : FuncData} (F : FdA K d10 fd) : Binds K fd (f 10).ps [] := binds0 F fun kV doc pm an cdv ct us l1 => by
  match us, l1 with
  | [u0, u1], _ => rfl
theorem sc10 : FnScope (f 10).N (f 10).ps d10.scope := ⟨rfl, rfl, rfl, by decide +kernel, by decide +kernel, by decide +kernel, by decide +kernel⟩
theorem bi11 {K : Frg} {fd : FuncData} (F : FdA K d11 fd) : Binds K fd (f 11).ps [] := binds0 F fun kV doc pm an cdv ct us l1 => by
  match us, l1 with
  | [u0, u1], _ => rfl
theorem sc11 : FnScope (f 11).N (f 11).ps d11.scope := ⟨rfl, rfl, rfl, by decide +kernel, by decide +kernel, by decide +kernel, by decide +kernel⟩
theorem bi12 {K : Frg} {fd : FuncData} (F : FdA K d12 fd) : Binds K fd (f 12).ps [] := binds0 F fun kV doc pm an cdv ct us l1 => by
  match us, l1 with
  | [u0, u1, u2], _ => rfl
theorem sc12 : FnScope (f 12).N (f 12).ps d12.scope := ⟨rfl, rfl, rfl, by decide +kernel, by decide +kernel, by decide +kernel, by decide +kernel⟩
theorem bi13 {K : Frg} {fd : FuncData} (F : FdA K d13 fd) : Binds K fd (f 13).ps [] := binds0 F fun kV doc pm an cdv ct us l1 => by
  match us, l1 with
  | [u0], _ => rfl
theorem sc13 : FnScope (f 13).N (f 13).ps d13.scope := ⟨rfl, rfl, rfl, by decide +kernel, by decide +kernel, by decide +kernel, by decide +kernel⟩
theorem bi14 {K : Frg} {fd : FuncData} (F : FdA K d14 fd) : Binds K fd (f 14).ps [] := binds0 F fun kV doc pm an cdv ct us l1 => by
  match us, l1 with
  | [u0, u1, u2], _ => rfl
theorem sc14 : FnScope (f 14).N (f 14).ps d14.scope := ⟨rfl, rfl, rfl, by decide +kernel, by decide +kernel, by decide +kernel, by decide +kernel⟩
theorem bi15 {K : Frg} {fd : FuncData} (F : FdA K d15 fd) : Binds K fd (f 15).ps [] := binds0 F fun kV doc pm an cdv ct us l1 => by
  match us, l1 with
  | [u0, u1, u2], _ => rfl
theorem sc15 : FnScope (f 15).N (f 15).ps d15.scope := ⟨rfl, rfl, rfl, by decide +kernel, by decide +kernel, by decide +kernel, by decide +kernel⟩
theorem bi16 {K : Frg} {fd : FuncData} (F : FdA K d16 fd) : Binds K fd (f 16).ps [] := binds0 F fun kV doc pm an cdv ct us l1 => by
  match us, l1 with
  | [u0, u1], _ => rfl
theorem sc16 : FnScope (f 16).N (f 16).ps d16.scope := ⟨rfl, rfl, rfl, by decide +kernel, by decide +kernel, by decide +kernel, by decide +kernel⟩
theorem bi17 {K : Frg} {fd : FuncData} (F : FdA K d17 fd) : Binds K fd (f 17).ps [] := binds0 F fun kV doc pm an cdv ct us l1 => by
  match us, l1 with
  | [u0, u1], _ => rfl
theorem sc17 : FnScope (f 17).N (f 17).ps d17.scope := ⟨rfl, rfl, rfl, by decide +kernel, by decide +kernel, by decide +kernel, by decide +kernel⟩
theorem bi18 {K : Frg} {fd : FuncData} (F : FdA K d18 fd) : Binds K fd (f 18).ps [] := binds0 F fun kV doc pm an cdv ct us l1 => by
  match us, l1 with
  | [u0], _ => rfl
theorem sc18 : FnScope (f 18).N (f 18).ps d18.scope := ⟨rfl, rfl, rfl, by decide +kernel, by decide +kernel, by decide +kernel, by decide +kernel⟩
theorem bi19 {K : Frg} {fd : FuncData} (F : FdA K d19 fd) : Binds K fd (f 19).ps [] := binds0 F fun kV doc pm an cdv ct us l1 => by
  match us, l1 with
  | [u0, u1], _ => rfl
theorem sc19 : FnScope (f 19).N (f 19).ps d19.scope := ⟨rfl, rfl, rfl, by decide +kernel, by decide +kernel, by decide +kernel, by decide +kernel⟩
theorem bi20 {K : Frg} {fd : FuncData} (F : FdA K d20 fd) : Binds K fd (f 20).ps [] := binds0 F fun kV doc pm an cdv ct us l1 => by
  match us, l1 with
  | [u0], _ => rfl
theorem sc20 : FnScope (f 20).N (f 20).ps d20.scope := ⟨rfl, rfl, rfl, by decide +kernel, by decide +kernel, by decide +kernel, by decide +kernel⟩
theorem bi21 {K : Frg} {fd : FuncData} (F : FdA K d21 fd) : Binds K fd (f 21).ps [] := binds0 F fun kV doc pm an cdv ct us l1 => by
  match us, l1 with
  | [u0, u1], _ => rfl
theorem sc21 : FnScope (f 21).N (f 21).ps d21.scope := ⟨rfl, rfl, rfl, by decide +kernel, by decide +kernel, by decide +kernel, by decide +kernel⟩
theorem bi22 {K : Frg} {fd : FuncData} (F : FdA K d22 fd) : Binds K fd (f 22).ps [] := binds0 F fun kV doc pm an cdv ct us l1 => by
  match us, l1 with
  | [u0], _ => rfl
theorem sc22 : FnScope (f 22).N (f 22).ps d22.scope := ⟨rfl, rfl, rfl, by decide +kernel, by decide +kernel, by decide +kernel, by decide +kernel⟩
theorem bi23 {K : Frg} {fd : FuncData} (F : FdA K d23 fd) : Binds K fd (f 23).ps [] := binds0 F fun kV doc pm an cdv ct us l1 => by
  match us, l1 with
  | [u0], _ => rfl
theorem sc23 : FnScope (f 23).N (f 23).ps d23.scope := ⟨rfl, rfl, rfl, by decide +kernel, by decide +kernel, by decide +kernel, by decide +kernel⟩
theorem bi24 {K : Frg} {fd : FuncData} (F : FdA K d24 fd) : Binds K fd (f 24).ps [] := binds0 F fun kV doc pm an cdv ct us l1 => by
  match us, l1 with
  | [u0, u1], _ => rfl
theorem sc24 : FnScope (f 24).N (f 24).ps d24.scope := ⟨rfl, rfl, rfl, by decide +kernel, by decide +kernel, by decide +kernel, by decide +kernel⟩
theorem bi25 {K : Frg} {fd : FuncData} (F : FdA K d25 fd) : Binds K fd (f 25).ps [] := binds0 F fun kV doc pm an cdv ct us l1 => by
  match us, l1 with
  | [u0, u1], _ => rfl
theorem sc25 : FnScope (f 25).N (f 25).ps d25.scope := ⟨rfl, rfl, rfl, by decide +kernel, by decide +kernel, by decide +kernel, by decide +kernel⟩
theorem bi26 {K : Frg} {fd : FuncData} (F : FdA K d26 fd) : Binds K fd (f 26).ps [] := binds0 F fun kV doc pm an cdv ct us l1 => by
  match us, l1 with
  | [u0, u1], _ => rfl
theorem sc26 : FnScope (f 26).N (f 26).ps d26.scope := ⟨rfl, rfl, rfl, by decide +kernel, by decide +kernel, by decide +kernel, by decide +kernel⟩
theorem bi27 {K : Frg} {fd : FuncData} (F : FdA K d27 fd) : Binds K fd (f 27).ps [] := binds0 F fun kV doc pm an cdv ct us l1 => by
  match us, l1 with
  | [u0], _ => rfl
theorem sc27 : FnScope (f 27).N (f 27).ps d27.scope := ⟨rfl, rfl, rfl, by decide +kernel, by decide +kernel, by decide +kernel, by decide +kernel⟩
theorem bi28 {K : Frg} {fd : FuncData} (F : FdA K d28 fd) : Binds K fd (f 28).ps [] := binds0 F fun kV doc pm an cdv ct us l1 => by
  match us, l1 with
  | [u0], _ => rfl
theorem sc28 : FnScope (f 28).N (f 28).ps d28.scope := ⟨rfl, rfl, rfl, by decide +kernel, by decide +kernel, by decide +kernel, by decide +kernel⟩
theorem bi29 {K : Frg} {fd : FuncData} (F : FdA K d29 fd) : Binds K fd (f 29).ps [] := binds0 F fun kV doc pm an cdv ct us l1 => by
  match us, l1 with
  | [u0, u1], _ => rfl
theorem sc29 : FnScope (f 29).N (f 29).ps d29.scope := ⟨rfl, rfl, rfl, by decide +kernel, by decide +kernel, by decide +kernel, by decide +kernel⟩
theorem bi30 {K : Frg} {fd : FuncData} (F : FdA K d30 fd) : Binds K fd (f 30).ps [] := binds0 F fun kV doc pm an cdv ct us l1 => by
  match us, l1 with
  | [u0, u1], _ => rfl
theorem sc30 : FnScope (f 30).N (f 30).ps d30.scope := ⟨rfl, rfl, rfl, by decide +kernel, by decide +kernel, by decide +kernel, by decide +kernel⟩
theorem bi31 {K : Frg} {fd : FuncData} (F : FdA K d31 fd) : Binds K fd (f 31).ps [] := binds0 F fun kV doc pm an cdv ct us l1 => by
  match us, l1 with
  | [u0], _ => rfl
theorem sc31 : FnScope (f 31).N (f 31).ps d31.scope := ⟨rfl, rfl, rfl, by decide +kernel, by decide +kernel, by decide +kernel, by decide +kernel⟩
theorem bi32 {K : Frg} {fd : FuncData} (F : FdA K d32 fd) : Binds K fd (f 32).ps [] := binds0 F fun kV doc pm an cdv ct us l1 => by
  match us, l1 with
  | [u0], _ => rfl
theorem sc32 : FnScope (f 32).N (f 32).ps d32.scope := ⟨rfl, rfl, rfl, by decide +kernel, by decide +kernel, by decide +kernel, by decide +kernel⟩
theorem bi33 {K : Frg} {fd : FuncData} (F : FdA K d33 fd) : Binds K fd (f 33).ps [] := binds0 F fun kV doc pm an cdv ct us l1 => by
  match us, l1 with
  | [u0], _ => rfl
theorem sc33 : FnScope (f 33).N (f 33).ps d33.scope := ⟨rfl, rfl, rfl, by decide +kernel, by decide +kernel, by decide +kernel, by decide +kernel⟩
theorem bi34 {K : Frg} {fd : FuncData} (F : FdA K d34 fd) : Binds K fd (f 34).ps [] := binds0 F fun kV doc pm an cdv ct us l1 => by
  match us, l1 with
  | [u0], _ => rfl
theorem sc34 : FnScope (f 34).N (f 34).ps d34.scope := ⟨rfl, rfl, rfl, by decide +kernel, by decide +kernel, by decide +kernel, by decide +kernel⟩
theorem bi35 {K : Frg} {fd : FuncData} (F : FdA K d35 fd) : Binds K fd (f 35).ps [] := binds0 F fun kV doc pm an cdv ct us l1 => by
  match us, l1 with
  | [u0, u1], _ => rfl
theorem sc35 : FnScope (f 35).N (f 35).ps d35.scope := ⟨rfl, rfl, rfl, by decide +kernel, by decide +kernel, by decide +kernel, by decide +kernel⟩
theorem bi36 {K : Frg} {fd : FuncData} (F : FdA K d36 fd) : Binds K fd (f 36).ps [] := binds0 F fun kV doc pm an cdv ct us l1 => by
  match us, l1 with
  | [u0], _ => rfl
theorem sc36 : FnScope (f 36).N (f 36).ps d36.scope := ⟨rfl, rfl, rfl, by decide +kernel, by decide +kernel, by decide +kernel, by decide +kernel⟩
theorem bi37 {K : Frg} {fd : FuncData} (F : FdA K d37 fd) : Binds K fd (f 37).ps [] := binds0 F fun kV doc pm an cdv ct us l1 => by
  match us, l1 with
  | [u0, u1, u2], _ => rfl
theorem sc37 : FnScope (f 37).N (f 37).ps d37.scope := ⟨rfl, rfl, rfl, by decide +kernel, by decide +kernel, by decide +kernel, by decide +kernel⟩
theorem bi38 {K : Frg} {fd : FuncData} (F : FdA K d38 fd) : Binds K fd (f 38).ps [] := binds0 F fun kV doc pm an cdv ct us l1 => by
  match us, l1 with
  | [u0], _ => rfl
theorem sc38 : FnScope (f 38).N (f 38).ps d38.scope := ⟨rfl, rfl, rfl, by decide +kernel, by decide +kernel, by decide +kernel, by decide +kernel⟩
theorem bi39 {K : Frg} {fd : FuncData} (F : FdA K d39 fd) : Binds K fd (f 39).ps [] := binds0 F fun kV doc pm an cdv ct us l1 => by
  match us, l1 with
  | [u0], _ => rfl
theorem sc39 : FnScope (f 39).N (f 39).ps d39.scope := ⟨rfl, rfl, rfl, by decide +kernel, by decide +kernel, by decide +kernel, by decide +kernel⟩
theorem shs {K : Frg} (hd : ∀ (f : Nat) (G : G) (B : Bar) (H : Hp), G.K = K → DenL G B H (De.f f).dfl ((all.getD f d0).dvs K)) : ∀ q ∈ Co.SH, ShOk K Co.P0 all q :=
  all_mem ⟨mkSh rfl rfl fun _ F => sh0 F, mkSh rfl rfl fun _ F => sh1 F, mkSh rfl rfl fun _ F => sh2 F, mkSh rfl rfl fun _ F => sh3 F, mkSh rfl rfl fun _ F => sh4 F, mkSh rfl rfl fun _ F => sh5 F fun G B H e => hd 5 G B H e, mkSh rfl rfl fun _ F => sh6 F fun G B H e => hd 5 G B H e, mkSh rfl rfl fun _ F => sh7 F fun G B H e => hd 5 G B H e, mkSh rfl rfl fun _ F => sh8 F fun G B H e => hd 5 G B H e, mkSh rfl rfl fun _ F => sh9 F, mkSh rfl rfl fun _ F => sh10 F, mkSh rfl rfl fun _ F => sh11 F, mkSh rfl rfl fun _ F => sh12 F, mkSh rfl rfl fun _ F => sh13 F, mkSh rfl rfl fun _ F => sh14 F, mkSh rfl rfl fun _ F => sh15 F, mkSh rfl rfl fun _ F => sh16 F, mkSh rfl rfl fun _ F => sh17 F, mkSh rfl rfl fun _ F => sh18 F, mkSh rfl rfl fun _ F => sh19 F, mkSh rfl rfl fun _ F => sh20 F, mkSh rfl rfl fun _ F => sh21 F, mkSh rfl rfl fun _ F => sh22 F, mkSh rfl rfl fun _ F => sh23 F, mkSh rfl rfl fun _ F => sh24 F, mkSh rfl rfl fun _ F => sh25 F, mkSh rfl rfl fun _ F => sh26 F, mkSh rfl rfl fun _ F => sh27 F, mkSh rfl rfl fun _ F => sh28 F, mkSh rfl rfl fun _ F => sh29 F, mkSh rfl rfl fun _ F => sh30 F, mkSh rfl rfl fun _ F => sh31 F, mkSh rfl rfl fun _ F => sh32 F, mkSh rfl rfl fun _ F => sh33 F, mkSh rfl rfl fun _ F => sh34 F, mkSh rfl rfl fun _ F => sh35 F, mkSh rfl rfl fun _ F => sh36 F, mkSh rfl rfl fun _ F => sh37 F, mkSh rfl rfl fun _ F => sh38 F, mkSh rfl rfl fun _ F => sh39 F, mkSh rfl rfl fun _ F => sh40 F, trivial⟩
theorem bnd {K : Frg} (hd : ∀ (f : Nat) (G : G) (B : Bar) (H : Hp), G.K = K → DenL G B H (De.f f).dfl ((all.getD f d0).dvs K)) : Bnd K Co.P0 all Co.SH :=
  ⟨fun f n ks h fi d fd h1 h2 F => shs hd _ h fi d fd h1 h2 F, fun f fi d fd h1 h2 F => all_ix (l := Co.P0.fns) (m := all) (Q := fun _ (fi : FnI) (d : DfA) => ∀ fd, FdA K d fd → Binds K fd fi.ps []) ⟨fun _ F => bi0 F, fun _ F => bi1 F, fun _ F => bi2 F, fun _ F => bi3 F, fun _ F => bi4 F, fun _ F => bi5 F, fun _ F => bi6 F, fun _ F => bi7 F, fun _ F => bi8 F, fun _ F => bi9 F, fun _ F => bi10 F, fun _ F => bi11 F, fun _ F => bi12 F, fun _ F => bi13 F, fun _ F => bi14 F, fun _ F => bi15 F, fun _ F => bi16 F, fun _ F => bi17 F, fun _ F => bi18 F, fun _ F => bi19 F, fun _ F => bi20 F, fun _ F => bi21 F, fun _ F => bi22 F, fun _ F => bi23 F, fun _ F => bi24 F, fun _ F => bi25 F, fun _ F => bi26 F, fun _ F => bi27 F, fun _ F => bi28 F, fun _ F => bi29 F, fun _ F => bi30 F, fun _ F => bi31 F, fun _ F => bi32 F, fun _ F => bi33 F, fun _ F => bi34 F, fun _ F => bi35 F, fun _ F => bi36 F, fun _ F => bi37 F, fun _ F => bi38 F, fun _ F => bi39 F, trivial⟩ f fi d h1 h2 fd F⟩
def bod (i : Nat) : Option Sx := [some Co.c0, some Co.c1, some Co.c2, some Co.c3, some Co.c4, some Co.c5, some Co.c6, some Co.c7, some Co.c8, some Co.c9, some Co.c10, some Co.c11, some Co.c12, some Co.c13, some Co.c14, some Co.c15, some Co.c16, some Co.c17, some Co.c18, some Co.c19, some Co.c20, some Co.c21, none, some Co.c23, some Co.c24, some Co.c25, some Co.c26, none, some Co.c28, some Co.c29, some Co.c30, some Co.c31, some Co.c32, some Co.c33, some Co.c34, some Co.c35, some Co.c36, some Co.c37, some Co.c38, none].getD i none
def lamN (i : Nat) : Option Str := [none, none, none, none, none, none, none, none, none, none, none, none, none, none, none, none, none, none, none, none, none, none, none, none, none, none, none, none, none, none, none, none, none, none, none, none, none, some "_law_caught", some "_law_caught", none].getD i none
theorem txs : Txs Co.P0 all Co.SH bod lamN 60 :=
  ⟨fun f fi d h1 h2 => all_ix (l := Co.P0.fns) (m := all) (Q := fun _ (fi : FnI) (d : DfA) => FnScope fi.N fi.ps d.scope) ⟨sc0, sc1, sc2, sc3, sc4, sc5, sc6, sc7, sc8, sc9, sc10, sc11, sc12, sc13, sc14, sc15, sc16, sc17, sc18, sc19, sc20, sc21, sc22, sc23, sc24, sc25, sc26, sc27, sc28, sc29, sc30, sc31, sc32, sc33, sc34, sc35, sc36, sc37, sc38, sc39, trivial⟩ f fi d h1 h2,
  fun f fi d b h1 h2 => all_ix (l := Co.P0.fns) (m := all) (Q := fun f (fi : FnI) (d : DfA) => ∀ b, bod f = some b → (∀ (c : Nat) (ci : ClI), Co.P0.cls[c]? = some ci → ci.init ≠ f) → chkS.chkB (chkS Co.P0 Co.SH none 60 (Stat.fn fi.N d.scope fi.gd (lamN f))) b d.body = true) ⟨(fun _ h _ => by cases h; exact Ck.k0), (fun _ h _ => by cases h; exact Ck.k1), (fun _ h _ => by cases h; exact Ck.k2), (fun _ h _ => by cases h; exact Ck.k3), (fun _ h _ => by cases h; exact Ck.k4), (fun _ _ h => absurd rfl (h 0 _ rfl)), (fun _ h _ => by cases h; exact Ck.k6), (fun _ h _ => by cases h; exact Ck.k7), (fun _ h _ => by cases h; exact Ck.k8), (fun _ h _ => by cases h; exact Ck.k9), (fun _ h _ => by cases h; exact Ck.k10), (fun _ h _ => by cases h; exact Ck.k11), (fun _ h _ => by cases h; exact Ck.k12), (fun _ h _ => by cases h; exact Ck.k13), (fun _ h _ => by cases h; exact Ck.k14), (fun _ h _ => by cases h; exact Ck.k15), (fun _ h _ => by cases h; exact Ck.k16), (fun _ h _ => by cases h; exact Ck.k17), (fun _ h _ => by cases h; exact Ck.k18), (fun _ h _ => by cases h; exact Ck.k19), (fun _ h _ => by cases h; exact Ck.k20), (fun _ h _ => by cases h; exact Ck.k21), (fun _ h _ => nomatch h), (fun _ h _ => by cases h; exact Ck.k23), (fun _ h _ => by cases h; exact Ck.k24), (fun _ h _ => by cases h; exact Ck.k25), (fun _ h _ => by cases h; exact Ck.k26), (fun _ h _ => nomatch h), (fun _ h _ => by cases h; exact Ck.k28), (fun _ h _ => by cases h; exact Ck.k29), (fun _ h _ => by cases h; exact Ck.k30), (fun _ h _ => by cases h; exact Ck.k31), (fun _ h _ => by cases h; exact Ck.k32), (fun _ h _ => by cases h; exact Ck.k33), (fun _ h _ => by cases h; exact Ck.k34), (fun _ h _ => by cases h; exact Ck.k35), (fun _ h _ => by cases h; exact Ck.k36), (fun _ h _ => by cases h; exact Ck.k37), (fun _ h _ => by cases h; exact Ck.k38), (fun _ h _ => nomatch h), trivial⟩ f fi d h1 h2 b,
  fun c ci fi d b h0 h1 h2 h3 => by
    match c, h0 with
    | 0, h0 => cases h0; cases h1; cases h2; cases h3; exact Ck.k5
    | c + 1, h0 => cases h0⟩
end De

end Ah

/-! ## K00h -/
set_option Elab.async false
set_option linter.all false
set_option maxRecDepth 100000
set_option maxHeartbeats 0
namespace Ah
open PySem PySem.Spec PyProof.Rows L2
namespace Hd
def tf : List DfA := [De.d37, De.d38]
def n0 : List Str := ["YardError", "BadKinds", "BadMany", "BadOther", "BadTools", "BadWord", "BadYard", "LETTERS", "MOST_LETTERS", "is_number", "is_between", "is_list", "is_plain_word", "are_unlike_words", "MOST_KINDS", "MOST_TOOLS", "MOST_AT_ONCE", "Yard", "need_yard", "is_kind", "is_tool", "need_renaming", "is_word", "renamed_of"]
def n1 : List Str := ["renamed_yard", "fresh_of", "fresh_words", "events_of", "is_event_of", "events", "is_event", "_law_begun", "_law_mixed", "_law_take", "_law_pick", "_law_shuffled", "_law_caught", "_law_kinds", "_law_says", "_law_told", "_law_yard", "_law_events", "_law_many_words", "_law_is_word", "_law_fresh", "_law_right", "_law_renamed_right", "_law_limits_right"]
def names : List Str := n0 ++ n1
def dfB (K : Frg) : Bool := emQ ("Yard", some "__init__") 0 K
def ex (K : Frg) : Bool := exB Co.P0 De.all Co.tbl dfB tf K
abbrev R : PySem.W.OpenRow := PySem.W.OpenLaw.row PySem.Challenge.rw_allhands_k00_whole_yards
abbrev hk : PySem.W.Hook := hookS 7 De.all tf ex
def ob (s : PySem.W.SharedT) : He.AlD := obsS 7 De.all tf ex (HandSHeadRun.getT s)
theorem ob_eq (s : PySem.W.SharedT) : ob s = hk.obs s.abs := obsS_eq (HandSHeadRun.getT_eq s)
theorem run (w : World) : HandSHeadRun.RunEq R (PySem.W.view R.prog [52]) hk ob 6000 names w := by
  intro os
  kernel_rfl
end Hd
end Ah

/-! ## K00j -/
set_option Elab.async false
set_option linter.all false
set_option maxRecDepth 100000
set_option maxHeartbeats 0
namespace Ah
open PySem PySem.Spec PyProof.Rows L2
namespace Jo
theorem dfl_den {K : Frg} (h : Hd.dfB K = true) (f : Nat) (G : Ah.G) (B : Bar) (H : Hp) (e : G.K = K) : DenL G B H (De.f f).dfl ((De.all.getD f De.d0).dvs K) := by
  by_cases hl : f < 40
  · have h1 : Co.fns[f]? = some (De.f f) := by
      have a1 : Co.fns.length = 40 := by decide +kernel
      unfold De.f
      rw [List.getD_eq_getElem?_getD, List.getElem?_eq_getElem (by omega)]; rfl
    have h2 : De.all[f]? = some (De.all.getD f De.d0) := by
      have a1 : De.all.length = 40 := by decide +kernel
      rw [List.getD_eq_getElem?_getD, List.getElem?_eq_getElem (by omega)]; rfl
    exact all_ix (l := Co.fns) (m := De.all) (Q := fun _ (fi : FnI) (d : DfA) => ∀ (G : Ah.G) (B : Bar) (H : Hp), G.K = K → DenL G B H fi.dfl (d.dvs K)) ⟨(fun G B H e => .nil), (fun G B H e => .nil), (fun G B H e => .nil), (fun G B H e => .nil), (fun G B H e => .nil), (fun G B H e => .cons (emQ_ok h G B H e) .nil), (fun G B H e => .nil), (fun G B H e => .nil), (fun G B H e => .nil), (fun G B H e => .nil), (fun G B H e => .nil), (fun G B H e => .nil), (fun G B H e => .nil), (fun G B H e => .nil), (fun G B H e => .nil), (fun G B H e => .nil), (fun G B H e => .nil), (fun G B H e => .nil), (fun G B H e => .nil), (fun G B H e => .nil), (fun G B H e => .nil), (fun G B H e => .nil), (fun G B H e => .nil), (fun G B H e => .nil), (fun G B H e => .nil), (fun G B H e => .nil), (fun G B H e => .nil), (fun G B H e => .nil), (fun G B H e => .nil), (fun G B H e => .nil), (fun G B H e => .nil), (fun G B H e => .nil), (fun G B H e => .nil), (fun G B H e => .nil), (fun G B H e => .nil), (fun G B H e => .nil), (fun G B H e => .nil), (fun G B H e => .nil), (fun G B H e => .nil), (fun G B H e => .nil), trivial⟩ f _ _ h1 h2 G B H e
  · have a1 : Co.fns.length = 40 := by decide +kernel
    have a2 : De.all.length = 40 := by decide +kernel
    unfold De.f
    rw [List.getD_eq_getElem?_getD, List.getD_eq_getElem?_getD, List.getElem?_eq_none (by omega), List.getElem?_eq_none (by omega)]
    exact .nil
theorem lam : ∀ (f : Nat) (d : DfA) (x : Str), De.all[f]? = some d → De.lamN f = some x → x = ("_law_caught" : Str) ∧ d ∈ Hd.tf := fun f d x h1 h2 =>
  all_ix (l := De.all) (m := De.all) (Q := fun f (d : DfA) (_ : DfA) => ∀ x, De.lamN f = some x → x = ("_law_caught" : Str) ∧ d ∈ Hd.tf) ⟨(fun _ h => nomatch h), (fun _ h => nomatch h), (fun _ h => nomatch h), (fun _ h => nomatch h), (fun _ h => nomatch h), (fun _ h => nomatch h), (fun _ h => nomatch h), (fun _ h => nomatch h), (fun _ h => nomatch h), (fun _ h => nomatch h), (fun _ h => nomatch h), (fun _ h => nomatch h), (fun _ h => nomatch h), (fun _ h => nomatch h), (fun _ h => nomatch h), (fun _ h => nomatch h), (fun _ h => nomatch h), (fun _ h => nomatch h), (fun _ h => nomatch h), (fun _ h => nomatch h), (fun _ h => nomatch h), (fun _ h => nomatch h), (fun _ h => nomatch h), (fun _ h => nomatch h), (fun _ h => nomatch h), (fun _ h => nomatch h), (fun _ h => nomatch h), (fun _ h => nomatch h), (fun _ h => nomatch h), (fun _ h => nomatch h), (fun _ h => nomatch h), (fun _ h => nomatch h), (fun _ h => nomatch h), (fun _ h => nomatch h), (fun _ h => nomatch h), (fun _ h => nomatch h), (fun _ h => nomatch h), (fun _ h => by cases h; exact ⟨rfl, List.mem_cons_self⟩), (fun _ h => by cases h; exact ⟨rfl, List.mem_cons_of_mem _ (List.mem_cons_self)⟩), (fun _ h => nomatch h), trivial⟩ f d d h1 h1 x h2
theorem caughtB : CaughtB De.d27.body De.d27.scope nC "work" "YardError" :=
  ⟨⟨_, "caught", "error", _, _, _, _, _, _, _, _, _, _, _, _, _, _, rfl, rfl, rfl, rfl, by decide +kernel, by decide +kernel⟩, by decide +kernel⟩
theorem lawS : LawS Co.P0 Co.SH Co.tbl De.all Hd.tf De.bod De.lamN Hd.dfB 27 22 39 Co.cL Co.N39 60 where
  isi := rfl
  bnd := fun K h => De.bnd (dfl_den h)
  txs := De.txs
  ini := iniB_ok (by decide +kernel)
  pini := piniB_ok (by decide +kernel)
  lam := lam
  c := ⟨_, De.d27, rfl, rfl, rfl, rfl, rfl, rfl, De.sc27, caughtB, by decide +kernel, by decide +kernel⟩
  b := ⟨_, De.d22, rfl, rfl, rfl, rfl, De.sc22, Ck.kB⟩
  l := ⟨_, De.d39, rfl, rfl, rfl, rfl, De.sc39, Ck.kL, by decide⟩
  e0 := ⟨_, rfl, rfl⟩
end Jo
end Ah

/-! ## K00p -/
set_option Elab.async false
set_option linter.all false
set_option maxRecDepth 100000
set_option maxHeartbeats 4000000
namespace Ah
open PySem PySem.Spec PyProof.Rows L2
namespace Pl
def FU : Nat := 300
def L (n : Nat) : Cl := lvl Co.P0 De.bod (fun _ => none) FU n
theorem lv {n : Nat} (h : 1 ≤ n) : ∃ m, n = m + 1 := ⟨n - 1, by omega⟩
theorem ca0 {n : Nat} {ds : List D} {s : Dr} (h : 1 ≤ n) : (L n).call 0 ds s = runF Co.P0 (L (n - 1)) FU Co.N0 Co.c0 ds s := by obtain ⟨m, rfl⟩ := lv h; rfl
theorem ca1 {n : Nat} {ds : List D} {s : Dr} (h : 1 ≤ n) : (L n).call 1 ds s = runF Co.P0 (L (n - 1)) FU Co.N1 Co.c1 ds s := by obtain ⟨m, rfl⟩ := lv h; rfl
theorem ca2 {n : Nat} {ds : List D} {s : Dr} (h : 1 ≤ n) : (L n).call 2 ds s = runF Co.P0 (L (n - 1)) FU Co.N2 Co.c2 ds s := by obtain ⟨m, rfl⟩ := lv h; rfl
theorem ca3 {n : Nat} {ds : List D} {s : Dr} (h : 1 ≤ n) : (L n).call 3 ds s = runF Co.P0 (L (n - 1)) FU Co.N3 Co.c3 ds s := by obtain ⟨m, rfl⟩ := lv h; rfl
theorem ca4 {n : Nat} {ds : List D} {s : Dr} (h : 1 ≤ n) : (L n).call 4 ds s = runF Co.P0 (L (n - 1)) FU Co.N4 Co.c4 ds s := by obtain ⟨m, rfl⟩ := lv h; rfl
theorem mk0 {n : Nat} {ds : List D} {s : Dr} (h : 1 ≤ n) : (L n).make 0 ds s = runI Co.P0 (L (n - 1)) FU 0 (Co.cls.getD 0 ⟨Str.empty, [], 0, [], none⟩).flds.length Co.N5 Co.c5 ds s := by obtain ⟨m, rfl⟩ := lv h; rfl
theorem ca6 {n : Nat} {ds : List D} {s : Dr} (h : 1 ≤ n) : (L n).call 6 ds s = runF Co.P0 (L (n - 1)) FU Co.N6 Co.c6 ds s := by obtain ⟨m, rfl⟩ := lv h; rfl
theorem ca7 {n : Nat} {ds : List D} {s : Dr} (h : 1 ≤ n) : (L n).call 7 ds s = runF Co.P0 (L (n - 1)) FU Co.N7 Co.c7 ds s := by obtain ⟨m, rfl⟩ := lv h; rfl
theorem ca8 {n : Nat} {ds : List D} {s : Dr} (h : 1 ≤ n) : (L n).call 8 ds s = runF Co.P0 (L (n - 1)) FU Co.N8 Co.c8 ds s := by obtain ⟨m, rfl⟩ := lv h; rfl
theorem ca9 {n : Nat} {ds : List D} {s : Dr} (h : 1 ≤ n) : (L n).call 9 ds s = runF Co.P0 (L (n - 1)) FU Co.N9 Co.c9 ds s := by obtain ⟨m, rfl⟩ := lv h; rfl
theorem ca10 {n : Nat} {ds : List D} {s : Dr} (h : 1 ≤ n) : (L n).call 10 ds s = runF Co.P0 (L (n - 1)) FU Co.N10 Co.c10 ds s := by obtain ⟨m, rfl⟩ := lv h; rfl
theorem ca11 {n : Nat} {ds : List D} {s : Dr} (h : 1 ≤ n) : (L n).call 11 ds s = runF Co.P0 (L (n - 1)) FU Co.N11 Co.c11 ds s := by obtain ⟨m, rfl⟩ := lv h; rfl
theorem ca12 {n : Nat} {ds : List D} {s : Dr} (h : 1 ≤ n) : (L n).call 12 ds s = runF Co.P0 (L (n - 1)) FU Co.N12 Co.c12 ds s := by obtain ⟨m, rfl⟩ := lv h; rfl
theorem ca13 {n : Nat} {ds : List D} {s : Dr} (h : 1 ≤ n) : (L n).call 13 ds s = runF Co.P0 (L (n - 1)) FU Co.N13 Co.c13 ds s := by obtain ⟨m, rfl⟩ := lv h; rfl
theorem ca14 {n : Nat} {ds : List D} {s : Dr} (h : 1 ≤ n) : (L n).call 14 ds s = runF Co.P0 (L (n - 1)) FU Co.N14 Co.c14 ds s := by obtain ⟨m, rfl⟩ := lv h; rfl
theorem ca15 {n : Nat} {ds : List D} {s : Dr} (h : 1 ≤ n) : (L n).call 15 ds s = runF Co.P0 (L (n - 1)) FU Co.N15 Co.c15 ds s := by obtain ⟨m, rfl⟩ := lv h; rfl
theorem ca16 {n : Nat} {ds : List D} {s : Dr} (h : 1 ≤ n) : (L n).call 16 ds s = runF Co.P0 (L (n - 1)) FU Co.N16 Co.c16 ds s := by obtain ⟨m, rfl⟩ := lv h; rfl
theorem ca17 {n : Nat} {ds : List D} {s : Dr} (h : 1 ≤ n) : (L n).call 17 ds s = runF Co.P0 (L (n - 1)) FU Co.N17 Co.c17 ds s := by obtain ⟨m, rfl⟩ := lv h; rfl
theorem ca18 {n : Nat} {ds : List D} {s : Dr} (h : 1 ≤ n) : (L n).call 18 ds s = runF Co.P0 (L (n - 1)) FU Co.N18 Co.c18 ds s := by obtain ⟨m, rfl⟩ := lv h; rfl
theorem ca19 {n : Nat} {ds : List D} {s : Dr} (h : 1 ≤ n) : (L n).call 19 ds s = runF Co.P0 (L (n - 1)) FU Co.N19 Co.c19 ds s := by obtain ⟨m, rfl⟩ := lv h; rfl
theorem ca20 {n : Nat} {ds : List D} {s : Dr} (h : 1 ≤ n) : (L n).call 20 ds s = runF Co.P0 (L (n - 1)) FU Co.N20 Co.c20 ds s := by obtain ⟨m, rfl⟩ := lv h; rfl
theorem ca21 {n : Nat} {ds : List D} {s : Dr} (h : 1 ≤ n) : (L n).call 21 ds s = runF Co.P0 (L (n - 1)) FU Co.N21 Co.c21 ds s := by obtain ⟨m, rfl⟩ := lv h; rfl
theorem ca23 {n : Nat} {ds : List D} {s : Dr} (h : 1 ≤ n) : (L n).call 23 ds s = runF Co.P0 (L (n - 1)) FU Co.N23 Co.c23 ds s := by obtain ⟨m, rfl⟩ := lv h; rfl
theorem ca24 {n : Nat} {ds : List D} {s : Dr} (h : 1 ≤ n) : (L n).call 24 ds s = runF Co.P0 (L (n - 1)) FU Co.N24 Co.c24 ds s := by obtain ⟨m, rfl⟩ := lv h; rfl
theorem ca25 {n : Nat} {ds : List D} {s : Dr} (h : 1 ≤ n) : (L n).call 25 ds s = runF Co.P0 (L (n - 1)) FU Co.N25 Co.c25 ds s := by obtain ⟨m, rfl⟩ := lv h; rfl
theorem ca26 {n : Nat} {ds : List D} {s : Dr} (h : 1 ≤ n) : (L n).call 26 ds s = runF Co.P0 (L (n - 1)) FU Co.N26 Co.c26 ds s := by obtain ⟨m, rfl⟩ := lv h; rfl
theorem ca28 {n : Nat} {ds : List D} {s : Dr} (h : 1 ≤ n) : (L n).call 28 ds s = runF Co.P0 (L (n - 1)) FU Co.N28 Co.c28 ds s := by obtain ⟨m, rfl⟩ := lv h; rfl
theorem ca29 {n : Nat} {ds : List D} {s : Dr} (h : 1 ≤ n) : (L n).call 29 ds s = runF Co.P0 (L (n - 1)) FU Co.N29 Co.c29 ds s := by obtain ⟨m, rfl⟩ := lv h; rfl
theorem ca30 {n : Nat} {ds : List D} {s : Dr} (h : 1 ≤ n) : (L n).call 30 ds s = runF Co.P0 (L (n - 1)) FU Co.N30 Co.c30 ds s := by obtain ⟨m, rfl⟩ := lv h; rfl
theorem ca31 {n : Nat} {ds : List D} {s : Dr} (h : 1 ≤ n) : (L n).call 31 ds s = runF Co.P0 (L (n - 1)) FU Co.N31 Co.c31 ds s := by obtain ⟨m, rfl⟩ := lv h; rfl
theorem ca32 {n : Nat} {ds : List D} {s : Dr} (h : 1 ≤ n) : (L n).call 32 ds s = runF Co.P0 (L (n - 1)) FU Co.N32 Co.c32 ds s := by obtain ⟨m, rfl⟩ := lv h; rfl
theorem ca33 {n : Nat} {ds : List D} {s : Dr} (h : 1 ≤ n) : (L n).call 33 ds s = runF Co.P0 (L (n - 1)) FU Co.N33 Co.c33 ds s := by obtain ⟨m, rfl⟩ := lv h; rfl
theorem ca34 {n : Nat} {ds : List D} {s : Dr} (h : 1 ≤ n) : (L n).call 34 ds s = runF Co.P0 (L (n - 1)) FU Co.N34 Co.c34 ds s := by obtain ⟨m, rfl⟩ := lv h; rfl
theorem ca35 {n : Nat} {ds : List D} {s : Dr} (h : 1 ≤ n) : (L n).call 35 ds s = runF Co.P0 (L (n - 1)) FU Co.N35 Co.c35 ds s := by obtain ⟨m, rfl⟩ := lv h; rfl
theorem ca36 {n : Nat} {ds : List D} {s : Dr} (h : 1 ≤ n) : (L n).call 36 ds s = runF Co.P0 (L (n - 1)) FU Co.N36 Co.c36 ds s := by obtain ⟨m, rfl⟩ := lv h; rfl
theorem ca37 {n : Nat} {ds : List D} {s : Dr} (h : 1 ≤ n) : (L n).call 37 ds s = runF Co.P0 (L (n - 1)) FU Co.N37 Co.c37 ds s := by obtain ⟨m, rfl⟩ := lv h; rfl
theorem ca38 {n : Nat} {ds : List D} {s : Dr} (h : 1 ≤ n) : (L n).call 38 ds s = runF Co.P0 (L (n - 1)) FU Co.N38 Co.c38 ds s := by obtain ⟨m, rfl⟩ := lv h; rfl
@[simp] theorem isi_biNoneType_bibool : Co.P0.isi (.bi "NoneType") (.bi "bool") = some false := by decide +kernel
@[simp] theorem isi_biNoneType_biint : Co.P0.isi (.bi "NoneType") (.bi "int") = some false := by decide +kernel
@[simp] theorem isi_biNoneType_bistr : Co.P0.isi (.bi "NoneType") (.bi "str") = some false := by decide +kernel
@[simp] theorem isi_biNoneType_bituple : Co.P0.isi (.bi "NoneType") (.bi "tuple") = some false := by decide +kernel
@[simp] theorem isi_biNoneType_bilist : Co.P0.isi (.bi "NoneType") (.bi "list") = some false := by decide +kernel
@[simp] theorem isi_biNoneType_bidict : Co.P0.isi (.bi "NoneType") (.bi "dict") = some false := by decide +kernel
@[simp] theorem isi_biNoneType_cls0 : Co.P0.isi (.bi "NoneType") (.cls 0) = some false := by decide +kernel
@[simp] theorem isi_biNoneType_ecl0 : Co.P0.isi (.bi "NoneType") (.ecl 0) = some false := by decide +kernel
@[simp] theorem isi_biNoneType_ecl1 : Co.P0.isi (.bi "NoneType") (.ecl 1) = some false := by decide +kernel
@[simp] theorem isi_biNoneType_ecl2 : Co.P0.isi (.bi "NoneType") (.ecl 2) = some false := by decide +kernel
@[simp] theorem isi_biNoneType_ecl3 : Co.P0.isi (.bi "NoneType") (.ecl 3) = some false := by decide +kernel
@[simp] theorem isi_biNoneType_ecl4 : Co.P0.isi (.bi "NoneType") (.ecl 4) = some false := by decide +kernel
@[simp] theorem isi_biNoneType_ecl5 : Co.P0.isi (.bi "NoneType") (.ecl 5) = some false := by decide +kernel
@[simp] theorem isi_biNoneType_ecl6 : Co.P0.isi (.bi "NoneType") (.ecl 6) = some false := by decide +kernel
@[simp] theorem isi_bibool_bibool : Co.P0.isi (.bi "bool") (.bi "bool") = some true := by decide +kernel
@[simp] theorem isi_bibool_biint : Co.P0.isi (.bi "bool") (.bi "int") = some true := by decide +kernel
@[simp] theorem isi_bibool_bistr : Co.P0.isi (.bi "bool") (.bi "str") = some false := by decide +kernel
@[simp] theorem isi_bibool_bituple : Co.P0.isi (.bi "bool") (.bi "tuple") = some false := by decide +kernel
@[simp] theorem isi_bibool_bilist : Co.P0.isi (.bi "bool") (.bi "list") = some false := by decide +kernel
@[simp] theorem isi_bibool_bidict : Co.P0.isi (.bi "bool") (.bi "dict") = some false := by decide +kernel
@[simp] theorem isi_bibool_cls0 : Co.P0.isi (.bi "bool") (.cls 0) = some false := by decide +kernel
@[simp] theorem isi_bibool_ecl0 : Co.P0.isi (.bi "bool") (.ecl 0) = some false := by decide +kernel
@[simp] theorem isi_bibool_ecl1 : Co.P0.isi (.bi "bool") (.ecl 1) = some false := by decide +kernel
@[simp] theorem isi_bibool_ecl2 : Co.P0.isi (.bi "bool") (.ecl 2) = some false := by decide +kernel
@[simp] theorem isi_bibool_ecl3 : Co.P0.isi (.bi "bool") (.ecl 3) = some false := by decide +kernel
@[simp] theorem isi_bibool_ecl4 : Co.P0.isi (.bi "bool") (.ecl 4) = some false := by decide +kernel
@[simp] theorem isi_bibool_ecl5 : Co.P0.isi (.bi "bool") (.ecl 5) = some false := by decide +kernel
@[simp] theorem isi_bibool_ecl6 : Co.P0.isi (.bi "bool") (.ecl 6) = some false := by decide +kernel
@[simp] theorem isi_biint_bibool : Co.P0.isi (.bi "int") (.bi "bool") = some false := by decide +kernel
@[simp] theorem isi_biint_biint : Co.P0.isi (.bi "int") (.bi "int") = some true := by decide +kernel
@[simp] theorem isi_biint_bistr : Co.P0.isi (.bi "int") (.bi "str") = some false := by decide +kernel
@[simp] theorem isi_biint_bituple : Co.P0.isi (.bi "int") (.bi "tuple") = some false := by decide +kernel
@[simp] theorem isi_biint_bilist : Co.P0.isi (.bi "int") (.bi "list") = some false := by decide +kernel
@[simp] theorem isi_biint_bidict : Co.P0.isi (.bi "int") (.bi "dict") = some false := by decide +kernel
@[simp] theorem isi_biint_cls0 : Co.P0.isi (.bi "int") (.cls 0) = some false := by decide +kernel
@[simp] theorem isi_biint_ecl0 : Co.P0.isi (.bi "int") (.ecl 0) = some false := by decide +kernel
@[simp] theorem isi_biint_ecl1 : Co.P0.isi (.bi "int") (.ecl 1) = some false := by decide +kernel
@[simp] theorem isi_biint_ecl2 : Co.P0.isi (.bi "int") (.ecl 2) = some false := by decide +kernel
@[simp] theorem isi_biint_ecl3 : Co.P0.isi (.bi "int") (.ecl 3) = some false := by decide +kernel
@[simp] theorem isi_biint_ecl4 : Co.P0.isi (.bi "int") (.ecl 4) = some false := by decide +kernel
@[simp] theorem isi_biint_ecl5 : Co.P0.isi (.bi "int") (.ecl 5) = some false := by decide +kernel
@[simp] theorem isi_biint_ecl6 : Co.P0.isi (.bi "int") (.ecl 6) = some false := by decide +kernel
@[simp] theorem isi_bistr_bibool : Co.P0.isi (.bi "str") (.bi "bool") = some false := by decide +kernel
@[simp] theorem isi_bistr_biint : Co.P0.isi (.bi "str") (.bi "int") = some false := by decide +kernel
@[simp] theorem isi_bistr_bistr : Co.P0.isi (.bi "str") (.bi "str") = some true := by decide +kernel
@[simp] theorem isi_bistr_bituple : Co.P0.isi (.bi "str") (.bi "tuple") = some false := by decide +kernel
@[simp] theorem isi_bistr_bilist : Co.P0.isi (.bi "str") (.bi "list") = some false := by decide +kernel
@[simp] theorem isi_bistr_bidict : Co.P0.isi (.bi "str") (.bi "dict") = some false := by decide +kernel
@[simp] theorem isi_bistr_cls0 : Co.P0.isi (.bi "str") (.cls 0) = some false := by decide +kernel
@[simp] theorem isi_bistr_ecl0 : Co.P0.isi (.bi "str") (.ecl 0) = some false := by decide +kernel
@[simp] theorem isi_bistr_ecl1 : Co.P0.isi (.bi "str") (.ecl 1) = some false := by decide +kernel
@[simp] theorem isi_bistr_ecl2 : Co.P0.isi (.bi "str") (.ecl 2) = some false := by decide +kernel
@[simp] theorem isi_bistr_ecl3 : Co.P0.isi (.bi "str") (.ecl 3) = some false := by decide +kernel
@[simp] theorem isi_bistr_ecl4 : Co.P0.isi (.bi "str") (.ecl 4) = some false := by decide +kernel
@[simp] theorem isi_bistr_ecl5 : Co.P0.isi (.bi "str") (.ecl 5) = some false := by decide +kernel
@[simp] theorem isi_bistr_ecl6 : Co.P0.isi (.bi "str") (.ecl 6) = some false := by decide +kernel
@[simp] theorem isi_bituple_bibool : Co.P0.isi (.bi "tuple") (.bi "bool") = some false := by decide +kernel
@[simp] theorem isi_bituple_biint : Co.P0.isi (.bi "tuple") (.bi "int") = some false := by decide +kernel
@[simp] theorem isi_bituple_bistr : Co.P0.isi (.bi "tuple") (.bi "str") = some false := by decide +kernel
@[simp] theorem isi_bituple_bituple : Co.P0.isi (.bi "tuple") (.bi "tuple") = some true := by decide +kernel
@[simp] theorem isi_bituple_bilist : Co.P0.isi (.bi "tuple") (.bi "list") = some false := by decide +kernel
@[simp] theorem isi_bituple_bidict : Co.P0.isi (.bi "tuple") (.bi "dict") = some false := by decide +kernel
@[simp] theorem isi_bituple_cls0 : Co.P0.isi (.bi "tuple") (.cls 0) = some false := by decide +kernel
@[simp] theorem isi_bituple_ecl0 : Co.P0.isi (.bi "tuple") (.ecl 0) = some false := by decide +kernel
@[simp] theorem isi_bituple_ecl1 : Co.P0.isi (.bi "tuple") (.ecl 1) = some false := by decide +kernel
@[simp] theorem isi_bituple_ecl2 : Co.P0.isi (.bi "tuple") (.ecl 2) = some false := by decide +kernel
@[simp] theorem isi_bituple_ecl3 : Co.P0.isi (.bi "tuple") (.ecl 3) = some false := by decide +kernel
@[simp] theorem isi_bituple_ecl4 : Co.P0.isi (.bi "tuple") (.ecl 4) = some false := by decide +kernel
@[simp] theorem isi_bituple_ecl5 : Co.P0.isi (.bi "tuple") (.ecl 5) = some false := by decide +kernel
@[simp] theorem isi_bituple_ecl6 : Co.P0.isi (.bi "tuple") (.ecl 6) = some false := by decide +kernel
@[simp] theorem isi_bilist_bibool : Co.P0.isi (.bi "list") (.bi "bool") = some false := by decide +kernel
@[simp] theorem isi_bilist_biint : Co.P0.isi (.bi "list") (.bi "int") = some false := by decide +kernel
@[simp] theorem isi_bilist_bistr : Co.P0.isi (.bi "list") (.bi "str") = some false := by decide +kernel
@[simp] theorem isi_bilist_bituple : Co.P0.isi (.bi "list") (.bi "tuple") = some false := by decide +kernel
@[simp] theorem isi_bilist_bilist : Co.P0.isi (.bi "list") (.bi "list") = some true := by decide +kernel
@[simp] theorem isi_bilist_bidict : Co.P0.isi (.bi "list") (.bi "dict") = some false := by decide +kernel
@[simp] theorem isi_bilist_cls0 : Co.P0.isi (.bi "list") (.cls 0) = some false := by decide +kernel
@[simp] theorem isi_bilist_ecl0 : Co.P0.isi (.bi "list") (.ecl 0) = some false := by decide +kernel
@[simp] theorem isi_bilist_ecl1 : Co.P0.isi (.bi "list") (.ecl 1) = some false := by decide +kernel
@[simp] theorem isi_bilist_ecl2 : Co.P0.isi (.bi "list") (.ecl 2) = some false := by decide +kernel
@[simp] theorem isi_bilist_ecl3 : Co.P0.isi (.bi "list") (.ecl 3) = some false := by decide +kernel
@[simp] theorem isi_bilist_ecl4 : Co.P0.isi (.bi "list") (.ecl 4) = some false := by decide +kernel
@[simp] theorem isi_bilist_ecl5 : Co.P0.isi (.bi "list") (.ecl 5) = some false := by decide +kernel
@[simp] theorem isi_bilist_ecl6 : Co.P0.isi (.bi "list") (.ecl 6) = some false := by decide +kernel
@[simp] theorem isi_bidict_bibool : Co.P0.isi (.bi "dict") (.bi "bool") = some false := by decide +kernel
@[simp] theorem isi_bidict_biint : Co.P0.isi (.bi "dict") (.bi "int") = some false := by decide +kernel
@[simp] theorem isi_bidict_bistr : Co.P0.isi (.bi "dict") (.bi "str") = some false := by decide +kernel
@[simp] theorem isi_bidict_bituple : Co.P0.isi (.bi "dict") (.bi "tuple") = some false := by decide +kernel
@[simp] theorem isi_bidict_bilist : Co.P0.isi (.bi "dict") (.bi "list") = some false := by decide +kernel
@[simp] theorem isi_bidict_bidict : Co.P0.isi (.bi "dict") (.bi "dict") = some true := by decide +kernel
@[simp] theorem isi_bidict_cls0 : Co.P0.isi (.bi "dict") (.cls 0) = some false := by decide +kernel
@[simp] theorem isi_bidict_ecl0 : Co.P0.isi (.bi "dict") (.ecl 0) = some false := by decide +kernel
@[simp] theorem isi_bidict_ecl1 : Co.P0.isi (.bi "dict") (.ecl 1) = some false := by decide +kernel
@[simp] theorem isi_bidict_ecl2 : Co.P0.isi (.bi "dict") (.ecl 2) = some false := by decide +kernel
@[simp] theorem isi_bidict_ecl3 : Co.P0.isi (.bi "dict") (.ecl 3) = some false := by decide +kernel
@[simp] theorem isi_bidict_ecl4 : Co.P0.isi (.bi "dict") (.ecl 4) = some false := by decide +kernel
@[simp] theorem isi_bidict_ecl5 : Co.P0.isi (.bi "dict") (.ecl 5) = some false := by decide +kernel
@[simp] theorem isi_bidict_ecl6 : Co.P0.isi (.bi "dict") (.ecl 6) = some false := by decide +kernel
@[simp] theorem isi_cls0_bibool : Co.P0.isi (.cls 0) (.bi "bool") = some false := by decide +kernel
@[simp] theorem isi_cls0_biint : Co.P0.isi (.cls 0) (.bi "int") = some false := by decide +kernel
@[simp] theorem isi_cls0_bistr : Co.P0.isi (.cls 0) (.bi "str") = some false := by decide +kernel
@[simp] theorem isi_cls0_bituple : Co.P0.isi (.cls 0) (.bi "tuple") = some false := by decide +kernel
@[simp] theorem isi_cls0_bilist : Co.P0.isi (.cls 0) (.bi "list") = some false := by decide +kernel
@[simp] theorem isi_cls0_bidict : Co.P0.isi (.cls 0) (.bi "dict") = some false := by decide +kernel
@[simp] theorem isi_cls0_cls0 : Co.P0.isi (.cls 0) (.cls 0) = some true := by decide +kernel
@[simp] theorem isi_cls0_ecl0 : Co.P0.isi (.cls 0) (.ecl 0) = some false := by decide +kernel
@[simp] theorem isi_cls0_ecl1 : Co.P0.isi (.cls 0) (.ecl 1) = some false := by decide +kernel
@[simp] theorem isi_cls0_ecl2 : Co.P0.isi (.cls 0) (.ecl 2) = some false := by decide +kernel
@[simp] theorem isi_cls0_ecl3 : Co.P0.isi (.cls 0) (.ecl 3) = some false := by decide +kernel
@[simp] theorem isi_cls0_ecl4 : Co.P0.isi (.cls 0) (.ecl 4) = some false := by decide +kernel
@[simp] theorem isi_cls0_ecl5 : Co.P0.isi (.cls 0) (.ecl 5) = some false := by decide +kernel
@[simp] theorem isi_cls0_ecl6 : Co.P0.isi (.cls 0) (.ecl 6) = some false := by decide +kernel
@[simp] theorem isi_ecl0_bibool : Co.P0.isi (.ecl 0) (.bi "bool") = some false := by decide +kernel
@[simp] theorem isi_ecl0_biint : Co.P0.isi (.ecl 0) (.bi "int") = some false := by decide +kernel
@[simp] theorem isi_ecl0_bistr : Co.P0.isi (.ecl 0) (.bi "str") = some false := by decide +kernel
@[simp] theorem isi_ecl0_bituple : Co.P0.isi (.ecl 0) (.bi "tuple") = some false := by decide +kernel
@[simp] theorem isi_ecl0_bilist : Co.P0.isi (.ecl 0) (.bi "list") = some false := by decide +kernel
@[simp] theorem isi_ecl0_bidict : Co.P0.isi (.ecl 0) (.bi "dict") = some false := by decide +kernel
@[simp] theorem isi_ecl0_cls0 : Co.P0.isi (.ecl 0) (.cls 0) = some false := by decide +kernel
@[simp] theorem isi_ecl0_ecl0 : Co.P0.isi (.ecl 0) (.ecl 0) = some true := by decide +kernel
@[simp] theorem isi_ecl0_ecl1 : Co.P0.isi (.ecl 0) (.ecl 1) = some false := by decide +kernel
@[simp] theorem isi_ecl0_ecl2 : Co.P0.isi (.ecl 0) (.ecl 2) = some false := by decide +kernel
@[simp] theorem isi_ecl0_ecl3 : Co.P0.isi (.ecl 0) (.ecl 3) = some false := by decide +kernel
@[simp] theorem isi_ecl0_ecl4 : Co.P0.isi (.ecl 0) (.ecl 4) = some false := by decide +kernel
@[simp] theorem isi_ecl0_ecl5 : Co.P0.isi (.ecl 0) (.ecl 5) = some false := by decide +kernel
@[simp] theorem isi_ecl0_ecl6 : Co.P0.isi (.ecl 0) (.ecl 6) = some false := by decide +kernel
@[simp] theorem isi_ecl1_bibool : Co.P0.isi (.ecl 1) (.bi "bool") = some false := by decide +kernel
@[simp] theorem isi_ecl1_biint : Co.P0.isi (.ecl 1) (.bi "int") = some false := by decide +kernel
@[simp] theorem isi_ecl1_bistr : Co.P0.isi (.ecl 1) (.bi "str") = some false := by decide +kernel
@[simp] theorem isi_ecl1_bituple : Co.P0.isi (.ecl 1) (.bi "tuple") = some false := by decide +kernel
@[simp] theorem isi_ecl1_bilist : Co.P0.isi (.ecl 1) (.bi "list") = some false := by decide +kernel
@[simp] theorem isi_ecl1_bidict : Co.P0.isi (.ecl 1) (.bi "dict") = some false := by decide +kernel
@[simp] theorem isi_ecl1_cls0 : Co.P0.isi (.ecl 1) (.cls 0) = some false := by decide +kernel
@[simp] theorem isi_ecl1_ecl0 : Co.P0.isi (.ecl 1) (.ecl 0) = some true := by decide +kernel
@[simp] theorem isi_ecl1_ecl1 : Co.P0.isi (.ecl 1) (.ecl 1) = some true := by decide +kernel
@[simp] theorem isi_ecl1_ecl2 : Co.P0.isi (.ecl 1) (.ecl 2) = some false := by decide +kernel
@[simp] theorem isi_ecl1_ecl3 : Co.P0.isi (.ecl 1) (.ecl 3) = some false := by decide +kernel
@[simp] theorem isi_ecl1_ecl4 : Co.P0.isi (.ecl 1) (.ecl 4) = some false := by decide +kernel
@[simp] theorem isi_ecl1_ecl5 : Co.P0.isi (.ecl 1) (.ecl 5) = some false := by decide +kernel
@[simp] theorem isi_ecl1_ecl6 : Co.P0.isi (.ecl 1) (.ecl 6) = some false := by decide +kernel
@[simp] theorem isi_ecl2_bibool : Co.P0.isi (.ecl 2) (.bi "bool") = some false := by decide +kernel
@[simp] theorem isi_ecl2_biint : Co.P0.isi (.ecl 2) (.bi "int") = some false := by decide +kernel
@[simp] theorem isi_ecl2_bistr : Co.P0.isi (.ecl 2) (.bi "str") = some false := by decide +kernel
@[simp] theorem isi_ecl2_bituple : Co.P0.isi (.ecl 2) (.bi "tuple") = some false := by decide +kernel
@[simp] theorem isi_ecl2_bilist : Co.P0.isi (.ecl 2) (.bi "list") = some false := by decide +kernel
@[simp] theorem isi_ecl2_bidict : Co.P0.isi (.ecl 2) (.bi "dict") = some false := by decide +kernel
@[simp] theorem isi_ecl2_cls0 : Co.P0.isi (.ecl 2) (.cls 0) = some false := by decide +kernel
@[simp] theorem isi_ecl2_ecl0 : Co.P0.isi (.ecl 2) (.ecl 0) = some true := by decide +kernel
@[simp] theorem isi_ecl2_ecl1 : Co.P0.isi (.ecl 2) (.ecl 1) = some false := by decide +kernel
@[simp] theorem isi_ecl2_ecl2 : Co.P0.isi (.ecl 2) (.ecl 2) = some true := by decide +kernel
@[simp] theorem isi_ecl2_ecl3 : Co.P0.isi (.ecl 2) (.ecl 3) = some false := by decide +kernel
@[simp] theorem isi_ecl2_ecl4 : Co.P0.isi (.ecl 2) (.ecl 4) = some false := by decide +kernel
@[simp] theorem isi_ecl2_ecl5 : Co.P0.isi (.ecl 2) (.ecl 5) = some false := by decide +kernel
@[simp] theorem isi_ecl2_ecl6 : Co.P0.isi (.ecl 2) (.ecl 6) = some false := by decide +kernel
@[simp] theorem isi_ecl3_bibool : Co.P0.isi (.ecl 3) (.bi "bool") = some false := by decide +kernel
@[simp] theorem isi_ecl3_biint : Co.P0.isi (.ecl 3) (.bi "int") = some false := by decide +kernel
@[simp] theorem isi_ecl3_bistr : Co.P0.isi (.ecl 3) (.bi "str") = some false := by decide +kernel
@[simp] theorem isi_ecl3_bituple : Co.P0.isi (.ecl 3) (.bi "tuple") = some false := by decide +kernel
@[simp] theorem isi_ecl3_bilist : Co.P0.isi (.ecl 3) (.bi "list") = some false := by decide +kernel
@[simp] theorem isi_ecl3_bidict : Co.P0.isi (.ecl 3) (.bi "dict") = some false := by decide +kernel
@[simp] theorem isi_ecl3_cls0 : Co.P0.isi (.ecl 3) (.cls 0) = some false := by decide +kernel
@[simp] theorem isi_ecl3_ecl0 : Co.P0.isi (.ecl 3) (.ecl 0) = some true := by decide +kernel
@[simp] theorem isi_ecl3_ecl1 : Co.P0.isi (.ecl 3) (.ecl 1) = some false := by decide +kernel
@[simp] theorem isi_ecl3_ecl2 : Co.P0.isi (.ecl 3) (.ecl 2) = some false := by decide +kernel
@[simp] theorem isi_ecl3_ecl3 : Co.P0.isi (.ecl 3) (.ecl 3) = some true := by decide +kernel
@[simp] theorem isi_ecl3_ecl4 : Co.P0.isi (.ecl 3) (.ecl 4) = some false := by decide +kernel
@[simp] theorem isi_ecl3_ecl5 : Co.P0.isi (.ecl 3) (.ecl 5) = some false := by decide +kernel
@[simp] theorem isi_ecl3_ecl6 : Co.P0.isi (.ecl 3) (.ecl 6) = some false := by decide +kernel
@[simp] theorem isi_ecl4_bibool : Co.P0.isi (.ecl 4) (.bi "bool") = some false := by decide +kernel
@[simp] theorem isi_ecl4_biint : Co.P0.isi (.ecl 4) (.bi "int") = some false := by decide +kernel
@[simp] theorem isi_ecl4_bistr : Co.P0.isi (.ecl 4) (.bi "str") = some false := by decide +kernel
@[simp] theorem isi_ecl4_bituple : Co.P0.isi (.ecl 4) (.bi "tuple") = some false := by decide +kernel
@[simp] theorem isi_ecl4_bilist : Co.P0.isi (.ecl 4) (.bi "list") = some false := by decide +kernel
@[simp] theorem isi_ecl4_bidict : Co.P0.isi (.ecl 4) (.bi "dict") = some false := by decide +kernel
@[simp] theorem isi_ecl4_cls0 : Co.P0.isi (.ecl 4) (.cls 0) = some false := by decide +kernel
@[simp] theorem isi_ecl4_ecl0 : Co.P0.isi (.ecl 4) (.ecl 0) = some true := by decide +kernel
@[simp] theorem isi_ecl4_ecl1 : Co.P0.isi (.ecl 4) (.ecl 1) = some false := by decide +kernel
@[simp] theorem isi_ecl4_ecl2 : Co.P0.isi (.ecl 4) (.ecl 2) = some false := by decide +kernel
@[simp] theorem isi_ecl4_ecl3 : Co.P0.isi (.ecl 4) (.ecl 3) = some false := by decide +kernel
@[simp] theorem isi_ecl4_ecl4 : Co.P0.isi (.ecl 4) (.ecl 4) = some true := by decide +kernel
@[simp] theorem isi_ecl4_ecl5 : Co.P0.isi (.ecl 4) (.ecl 5) = some false := by decide +kernel
@[simp] theorem isi_ecl4_ecl6 : Co.P0.isi (.ecl 4) (.ecl 6) = some false := by decide +kernel
@[simp] theorem isi_ecl5_bibool : Co.P0.isi (.ecl 5) (.bi "bool") = some false := by decide +kernel
@[simp] theorem isi_ecl5_biint : Co.P0.isi (.ecl 5) (.bi "int") = some false := by decide +kernel
@[simp] theorem isi_ecl5_bistr : Co.P0.isi (.ecl 5) (.bi "str") = some false := by decide +kernel
@[simp] theorem isi_ecl5_bituple : Co.P0.isi (.ecl 5) (.bi "tuple") = some false := by decide +kernel
@[simp] theorem isi_ecl5_bilist : Co.P0.isi (.ecl 5) (.bi "list") = some false := by decide +kernel
@[simp] theorem isi_ecl5_bidict : Co.P0.isi (.ecl 5) (.bi "dict") = some false := by decide +kernel
@[simp] theorem isi_ecl5_cls0 : Co.P0.isi (.ecl 5) (.cls 0) = some false := by decide +kernel
@[simp] theorem isi_ecl5_ecl0 : Co.P0.isi (.ecl 5) (.ecl 0) = some true := by decide +kernel
@[simp] theorem isi_ecl5_ecl1 : Co.P0.isi (.ecl 5) (.ecl 1) = some false := by decide +kernel
@[simp] theorem isi_ecl5_ecl2 : Co.P0.isi (.ecl 5) (.ecl 2) = some false := by decide +kernel
@[simp] theorem isi_ecl5_ecl3 : Co.P0.isi (.ecl 5) (.ecl 3) = some false := by decide +kernel
@[simp] theorem isi_ecl5_ecl4 : Co.P0.isi (.ecl 5) (.ecl 4) = some false := by decide +kernel
@[simp] theorem isi_ecl5_ecl5 : Co.P0.isi (.ecl 5) (.ecl 5) = some true := by decide +kernel
@[simp] theorem isi_ecl5_ecl6 : Co.P0.isi (.ecl 5) (.ecl 6) = some false := by decide +kernel
@[simp] theorem isi_ecl6_bibool : Co.P0.isi (.ecl 6) (.bi "bool") = some false := by decide +kernel
@[simp] theorem isi_ecl6_biint : Co.P0.isi (.ecl 6) (.bi "int") = some false := by decide +kernel
@[simp] theorem isi_ecl6_bistr : Co.P0.isi (.ecl 6) (.bi "str") = some false := by decide +kernel
@[simp] theorem isi_ecl6_bituple : Co.P0.isi (.ecl 6) (.bi "tuple") = some false := by decide +kernel
@[simp] theorem isi_ecl6_bilist : Co.P0.isi (.ecl 6) (.bi "list") = some false := by decide +kernel
@[simp] theorem isi_ecl6_bidict : Co.P0.isi (.ecl 6) (.bi "dict") = some false := by decide +kernel
@[simp] theorem isi_ecl6_cls0 : Co.P0.isi (.ecl 6) (.cls 0) = some false := by decide +kernel
@[simp] theorem isi_ecl6_ecl0 : Co.P0.isi (.ecl 6) (.ecl 0) = some true := by decide +kernel
@[simp] theorem isi_ecl6_ecl1 : Co.P0.isi (.ecl 6) (.ecl 1) = some false := by decide +kernel
@[simp] theorem isi_ecl6_ecl2 : Co.P0.isi (.ecl 6) (.ecl 2) = some false := by decide +kernel
@[simp] theorem isi_ecl6_ecl3 : Co.P0.isi (.ecl 6) (.ecl 3) = some false := by decide +kernel
@[simp] theorem isi_ecl6_ecl4 : Co.P0.isi (.ecl 6) (.ecl 4) = some false := by decide +kernel
@[simp] theorem isi_ecl6_ecl5 : Co.P0.isi (.ecl 6) (.ecl 5) = some false := by decide +kernel
@[simp] theorem isi_ecl6_ecl6 : Co.P0.isi (.ecl 6) (.ecl 6) = some true := by decide +kernel
end Pl
end Ah

/-! ## K00q -/
set_option Elab.async false
set_option linter.all false
set_option maxRecDepth 100000
set_option maxHeartbeats 4000000
namespace Ah
open PySem PySem.Spec PyProof.Rows L2
/-! ### comprehensions in plain words -/
section
variable {P : Prg} {cl : Cl}
theorem mapR_flt {α : Type} {f : α → Dr → R (List D)} {p : α → Bool} {g : α → D} {s : Dr} : ∀ {xs : List α}, (∀ x ∈ xs, f x s = .ok (if p x then [g x] else []) s) → mapR f xs s = .ok ((xs.filter p).map g) s
  | [], _ => rfl
  | x :: xs, h => by
    simp only [mapR, h x List.mem_cons_self, R.bind_ok, mapR_flt (fun y hy => h y (List.mem_cons_of_mem _ hy)), List.filter_cons]
    cases p x <;> rfl
theorem mapR_map {α : Type} {f : α → Dr → R (List D)} {g : α → D} {s : Dr} : ∀ {xs : List α}, (∀ x ∈ xs, f x s = .ok [g x] s) → mapR f xs s = .ok (xs.map g) s
  | [], _ => rfl
  | x :: xs, h => by
    simp only [mapR, h x List.mem_cons_self, R.bind_ok, mapR_map (fun y hy => h y (List.mem_cons_of_mem _ hy))]
    rfl
theorem mapR_fm {α : Type} {f : α → Dr → R (List D)} {g : α → List D} {s : Dr} : ∀ {xs : List α}, (∀ x ∈ xs, f x s = .ok (g x) s) → mapR f xs s = .ok (xs.flatMap g) s
  | [], _ => rfl
  | x :: xs, h => by
    simp only [mapR, h x List.mem_cons_self, R.bind_ok, mapR_fm (fun y hy => h y (List.mem_cons_of_mem _ hy)), List.flatMap_cons]
theorem ev_cm {own : List (Str × Nat)} {e it : C} {i : Nat} {env : En} {s : Dr} {x : D} {xs : List D} {g : D → D} (hit : ev P cl it env s = .ok x s) (hx : items x = some xs) (hl : xs.length ≤ LIM)
    (h : ∀ y ∈ xs, ev P cl e ((wipeE env (own.map (·.2))).set i (some y)) s = .ok (g y) s) : ev P cl (.comp own e (.nm i) it .nop) env s = .ok (.lst (xs.map g)) s := by
  simp only [ev, hit, R.bind_ok, hx, ofO]
  rw [mapR_map (g := g)]
  · simp [R.quiet, R.lim, hl]
  · intro y hy
    simp [Tg.put, isNop, h y hy]
theorem ev_cf {own : List (Str × Nat)} {e it c : C} {i : Nat} {env : En} {s : Dr} {x : D} {xs : List D} {g : D → D} {p : D → Bool} (hn : isNop c = false) (hit : ev P cl it env s = .ok x s) (hx : items x = some xs) (hl : xs.length ≤ LIM)
    (hc : ∀ y ∈ xs, ∃ d, ev P cl c ((wipeE env (own.map (·.2))).set i (some y)) s = .ok d s ∧ d.truth = some (p y)) (h : ∀ y ∈ xs, p y = true → ev P cl e ((wipeE env (own.map (·.2))).set i (some y)) s = .ok (g y) s) : ev P cl (.comp own e (.nm i) it c) env s = .ok (.lst ((xs.filter p).map g)) s := by
  simp only [ev, hit, R.bind_ok, hx, ofO]
  rw [mapR_flt (p := p) (g := g)]
  · have : (xs.filter p).length ≤ LIM := Nat.le_trans (List.length_filter_le _ _) hl
    simp [R.quiet, R.lim, this]
  · intro y hy
    obtain ⟨d, e1, e2⟩ := hc y hy
    simp only [Tg.put, hn, e1, R.bind_ok, e2, ofO]
    cases hp : p y with
    | true => simp [h y hy hp]
    | false => simp
theorem all_bl {α : Type} {p : α → Bool} : ∀ xs : List α, bltD .all (.lst (xs.map fun x => .bl (p x))) = some (.bl (xs.all p)) := by
  intro xs
  have : ∀ (F : D → Option Bool), (∀ b, F (.bl b) = some b) → ∀ xs : List α, (xs.map fun x => D.bl (p x)).mapM F = some (xs.map p) := by
    intro F hF xs
    induction xs with
    | nil => rfl
    | cons x xs ih => rw [List.map_cons, List.mapM_cons, ih, hF]; rfl
  simp only [bltD]
  rw [this _ (fun _ => rfl)]
  show some (D.bl ((xs.map p).all id)) = _
  rw [List.all_map]; rfl
end
namespace Pl
def LET : Str := "abcdefghijklmnopqrstuvwxyz"
@[simp] theorem gc0 : Co.P0.gcs[0]? = some (("LETTERS" : Str), D.str LET) := rfl
@[simp] theorem gc1 : Co.P0.gcs[1]? = some (("MOST_LETTERS" : Str), D.int 8) := rfl
@[simp] theorem gc2 : Co.P0.gcs[2]? = some (("MOST_KINDS" : Str), D.int 40) := rfl
@[simp] theorem gc3 : Co.P0.gcs[3]? = some (("MOST_TOOLS" : Str), D.int 2) := rfl
@[simp] theorem gc4 : Co.P0.gcs[4]? = some (("MOST_AT_ONCE" : Str), D.int 4) := rfl
/-- a plain word -/
def plainW (w : Str) : Bool := decide (1 ≤ (w.length : Int)) && (decide ((w.length : Int) ≤ 8) && w.cps.toList.all fun c => strIn ⟨#[c]⟩ LET)
def isStr : D → Option Str | .str s => some s | _ => none
def isPW : D → Bool | .str s => plainW s | _ => false
section
variable {n : Nat} {s : Dr}
theorem len_lim {w : Str} (h : (w.length : Int) ≤ 8) : w.cps.toList.length ≤ LIM := by
  have : w.length = w.cps.size := rfl
  rw [Array.length_toList, ← this]; unfold LIM; omega
theorem chars_all {cl : Cl} {w : Str} {env : En} (he : env[0]? = some (some (.str w))) (hw : (wipeE env [1]).length = 2) (h : (w.length : Int) ≤ 8) : ev Co.P0 cl (.comp [("sign", 1)] (.cmp .In (.var 1) (.gcon 0)) (.nm 1) (.var 0) .nop) env s = .ok (.lst (w.cps.toList.map fun c => .bl (strIn ⟨#[c]⟩ LET))) s := by
  have e := ev_cm (P := Co.P0) (cl := cl) (own := [("sign", 1)]) (e := .cmp .In (.var 1) (.gcon 0)) (it := .var 0) (i := 1) (env := env) (s := s) (x := .str w) (xs := w.cps.toList.map fun c => .str ⟨#[c]⟩) (g := fun d => match d with | .str c => .bl (strIn c LET) | _ => .non)
    (by simp [ev, he]) rfl (by rw [List.length_map]; exact len_lim h) (fun y hy => by
      obtain ⟨c, _, rfl⟩ := List.mem_map.mp hy
      have h1 : ((wipeE env [1]).set 1 (some (D.str ⟨#[c]⟩)))[1]? = some (some (.str ⟨#[c]⟩)) := by
        rw [List.getElem?_set_self (by rw [hw]; decide)]
      show ev Co.P0 cl _ ((wipeE env [1]).set 1 _) s = _
      simp only [ev, h1, R.bind_ok, gc0, cmpR, cmpD, pyIn, ofO, Option.map])
  rw [e, List.map_map]; rfl
theorem f3_str {w : Str} (h : 1 ≤ n) : (L n).call 3 [.str w] s = .ok (.bl (plainW w)) s := by
  rw [ca3 h]
  unfold runF Co.c3
  have ez : z0 Co.N3 ([D.str w].map some) = ⟨[some (.str w), none], [], []⟩ := rfl
  rw [ez]
  unfold plainW
  by_cases h1 : 1 ≤ (w.length : Int)
  · by_cases h2 : (w.length : Int) ≤ 8
    · have e := chars_all (cl := L (n - 1)) (s := s) (w := w) (env := [some (.str w), none]) rfl rfl h2
      have e2 := all_bl (p := fun c => strIn ⟨#[c]⟩ LET) w.cps.toList
      simp only [evS, ev, List.getElem?_cons_zero, R.bind_ok, D.ty, isiL, isi_bistr_bistr, ofO, Option.map, D.truth, bltD, cmpD, decide_eq_true h1, gc1, decide_eq_true h2] at e e2 ⊢
      rw [e]
      simp only [R.bind_ok, e2, endF, Bool.true_and]
    · simp [evS, ev, D.ty, isiL, ofO, D.truth, bltD, cmpD, h1, h2, endF]
  · simp [evS, ev, D.ty, isiL, ofO, D.truth, bltD, cmpD, h1, endF]
theorem f3_no {d : D} (h : 1 ≤ n) (hd : d = .non ∨ (∃ i, d = .int i) ∨ (∃ b, d = .bl b) ∨ (∃ l, d = .lst l) ∨ (∃ l, d = .tup l)) : (L n).call 3 [d] s = .ok (.bl false) s := by
  rw [ca3 h]
  unfold runF Co.c3
  rcases hd with rfl | ⟨i, rfl⟩ | ⟨b, rfl⟩ | ⟨l, rfl⟩ | ⟨l, rfl⟩ <;> simp [z0, Co.N3, evS, ev, D.ty, isiL, ofO, D.truth, endF]
end
end Pl
end Ah

/-! ## K00r -/
set_option Elab.async false
set_option linter.all false
set_option maxRecDepth 100000
set_option maxHeartbeats 4000000
namespace Ah
open PySem PySem.Spec PyProof.Rows L2
/-! ### texts in lists -/
abbrev kl (ws : List Str) : List D := ws.map .str
theorem toPyL_kl : ∀ ws : List Str, D.toPyL (kl ws) = some (ws.map .str)
  | [] => rfl
  | w :: ws => by
    have := toPyL_kl ws
    simp only [kl, List.map_cons, D.toPyL, D.toPy] at *
    rw [this]
theorem depth_kl : ∀ ws : List Str, PyData.depthAll (ws.map PyData.str) = 0
  | [] => rfl
  | w :: ws => by simp only [List.map_cons, PyData.depthAll, PyData.depth, depth_kl ws]; rfl
theorem eqv_kl : ∀ (a b : List Str), PyData.eqvAll (a.map .str) (b.map .str) = decide (a = b)
  | [], [] => rfl
  | [], _ :: _ => rfl
  | _ :: _, [] => rfl
  | x :: a, y :: b => by
    simp only [List.map_cons, PyData.eqvAll, PyData.eqv, eqv_kl a b]
    by_cases h1 : x = y <;> by_cases h2 : a = b <;> simp [h1, h2]
theorem pys_kl (ws : List Str) : (D.lst (kl ws)).pyS = some (.list (ws.map .str)) := by
  unfold D.pyS
  simp only [D.toPy, toPyL_kl]
  exact if_pos (by simp only [PyData.depth, depth_kl]; decide)
theorem pys_str (w : Str) : (D.str w).pyS = some (.str w) := rfl
theorem in_lst (w : Str) (ws : List Str) : pyIn (.str w) (.lst (kl ws)) = some (decide (w ∈ ws)) := by
  simp only [pyIn, pys_kl, pys_str]
  congr 1
  rw [List.any_map]
  induction ws with
  | nil => rfl
  | cons x ws ih =>
    rw [List.any_cons, ih]
    simp only [Function.comp, PyData.eqv, List.mem_cons]
    by_cases h : x = w
    · simp [h]
    · simp [h, Ne.symm h]
theorem flat_kl : ∀ {ws : List Str}, (∀ w ∈ ws, sOk w = true) → (kl ws).mapM D.flat = some (ws.map V.str)
  | [], _ => rfl
  | w :: ws, h => by
    have h1 := h w List.mem_cons_self
    have := flat_kl (ws := ws) fun x hx => h x (List.mem_cons_of_mem _ hx)
    simp only [kl, List.map_cons, List.mapM_cons, D.flat, h1, if_true] at *
    rw [this]; rfl
theorem in_tup {w : Str} {ws : List Str} (hw : sOk w = true) (h : ∀ w ∈ ws, sOk w = true) : pyIn (.str w) (.tup (kl ws)) = some (decide (w ∈ ws)) := by
  simp only [pyIn, D.flat, hw, if_true, flat_kl h]
  congr 1
  unfold inV
  rw [List.any_map]
  induction ws with
  | nil => rfl
  | cons x ws ih =>
    rw [List.any_cons, ih fun y hy => h y (List.mem_cons_of_mem _ hy)]
    simp only [Function.comp, List.mem_cons]
    by_cases e : x = w
    · simp [e, eqV]
    · simp [e, Ne.symm e, eqV]
theorem pyg_kl {ws : List Str} (h : ∀ w ∈ ws, sOk w = true) : PyG (.lst (kl ws)) 1 := .lst (.strs h)
theorem pyg_tl {ws : List Str} (h : ∀ w ∈ ws, sOk w = true) : PyG (.tup (kl ws)) 1 := .tup (.strs h)
theorem eq_tt (a b c d : List Str) : pyEq (.tup [.tup (kl a), .tup (kl b)]) (.tup [.tup (kl c), .tup (kl d)]) = some (decide (a = c ∧ b = d)) := by
  have e : ∀ a b : List Str, (D.tup [.tup (kl a), .tup (kl b)]).pyS = some (.tuple [.tuple (a.map .str), .tuple (b.map .str)]) := fun a b => by
    unfold D.pyS
    simp only [D.toPy, D.toPyL, toPyL_kl]
    exact if_pos (by simp only [PyData.depth, PyData.depthAll, depth_kl]; decide)
  simp only [pyEq, e, PyData.eqv, PyData.eqvAll, eqv_kl, Bool.and_true]
  by_cases h1 : a = c <;> by_cases h2 : b = d <;> simp [h1, h2]
theorem eq_tl (a b c d : List Str) : pyEq (.tup [.lst (kl a), .lst (kl b)]) (.tup [.lst (kl c), .lst (kl d)]) = some (decide (a = c ∧ b = d)) := by
  have e : ∀ a b : List Str, (D.tup [.lst (kl a), .lst (kl b)]).pyS = some (.tuple [.list (a.map .str), .list (b.map .str)]) := fun a b => by
    unfold D.pyS
    simp only [D.toPy, D.toPyL, toPyL_kl]
    exact if_pos (by simp only [PyData.depth, PyData.depthAll, depth_kl]; decide)
  simp only [pyEq, e, PyData.eqv, PyData.eqvAll, eqv_kl, Bool.and_true]
  by_cases h1 : a = c <;> by_cases h2 : b = d <;> simp [h1, h2]
theorem dups_nodup : ∀ {ws : List Str}, ws.Nodup → ws.eraseDups = ws
  | [], _ => rfl
  | w :: ws, h => by
    rw [List.nodup_cons] at h
    rw [List.eraseDups_cons]
    have : ws.filter (fun b => !b == w) = ws := List.filter_eq_self.mpr fun x hx => by
      have : x ≠ w := fun e => h.1 (e ▸ hx)
      simp [this]
    rw [this, dups_nodup h.2]
theorem strs_kl (ws : List Str) (F : D → Option Str) (hF : ∀ s, F (.str s) = some s) : (kl ws).mapM F = some ws := by
  induction ws with
  | nil => rfl
  | cons w ws ih => rw [kl, List.map_cons, List.mapM_cons, hF]; rw [kl] at ih; rw [ih]; rfl
theorem lenSet_kl {ws : List Str} (h : ws.length ≤ 4000) : bltD .lenSet (.lst (kl ws)) = some (.int (ws.eraseDups.length : Nat)) ∧ bltD .lenSet (.tup (kl ws)) = some (.int (ws.eraseDups.length : Nat)) := by
  constructor <;> simp only [bltD] <;> rw [strs_kl _ _ fun _ => rfl] <;> exact if_pos h
namespace Pl
/-- a list of words, as list or tuple -/
def Sq (d : D) (xs : List D) : Prop := d = .lst xs ∨ d = .tup xs
section
variable {n : Nat} {s : Dr}
theorem f2_yes {d : D} {xs : List D} (h : 1 ≤ n) (hd : Sq d xs) : (L n).call 2 [d] s = .ok (.bl true) s := by
  obtain ⟨m, rfl⟩ := lv h
  rcases hd with rfl | rfl <;> rw [ca2 h] <;> simp [runF, Co.c2, z0, Co.N2, evS, ev, D.ty, isiL, ofO, endF]
theorem f2_no {d : D} (h : 1 ≤ n) (hd : d = .non ∨ (∃ i, d = .int i) ∨ (∃ w, d = .str w) ∨ ∃ k l, d = .dct k l) : (L n).call 2 [d] s = .ok (.bl false) s := by
  rcases hd with rfl | ⟨i, rfl⟩ | ⟨b, rfl⟩ | ⟨k, l, rfl⟩ <;> rw [ca2 h] <;> simp [runF, Co.c2, z0, Co.N2, evS, ev, D.ty, isiL, ofO, endF]
theorem items_sq {d : D} {xs : List D} (hd : Sq d xs) : items d = some xs ∧ bltD .len d = some (.int xs.length) := by
  rcases hd with rfl | rfl <;> exact ⟨rfl, rfl⟩
/-- texts and numbers as items -/
def Simple (x : D) : Prop := (∃ w, x = .str w) ∨ x = .non ∨ (∃ i, x = .int i) ∨ (∃ b, x = .bl b) ∨ (∃ l, x = .lst l) ∨ (∃ l, x = .tup l)
theorem f3_all {x : D} (h : 1 ≤ n) (hx : Simple x) : (L n).call 3 [x] s = .ok (.bl (isPW x)) s := by
  rcases hx with ⟨w, rfl⟩ | rfl | ⟨i, rfl⟩ | ⟨b, rfl⟩ | ⟨l, rfl⟩ | ⟨l, rfl⟩
  · exact f3_str h
  · exact f3_no h (.inl rfl)
  · exact f3_no h (.inr (.inl ⟨i, rfl⟩))
  · exact f3_no h (.inr (.inr (.inl ⟨b, rfl⟩)))
  · exact f3_no h (.inr (.inr (.inr (.inl ⟨l, rfl⟩))))
  · exact f3_no h (.inr (.inr (.inr (.inr ⟨l, rfl⟩))))
theorem comp_pw {m : Nat} {d : D} {xs : List D} {a b : D} (h : 1 ≤ m) (hd : Sq d xs) (hx : ∀ x ∈ xs, Simple x) (hl : xs.length ≤ LIM) : ev Co.P0 (L m) (.comp [("word", 3)] (.call 3 (.cons (.var 3) .nil)) (.nm 3) (.var 0) .nop) [some d, some a, some b, none] s = .ok (.lst (xs.map fun x => .bl (isPW x))) s :=
  ev_cm (x := d) (by simp [ev]) (items_sq hd).1 hl fun y hy => by
    show ev Co.P0 (L m) _ [some d, some a, some b, some y] s = _
    simp [ev, evL, f3_all h (hx y hy)]
/-- what are_unlike_words tells -/
def unl (xs : List D) (lo hi : Int) : Bool := decide (lo ≤ xs.length) && (decide ((xs.length : Int) ≤ hi) && (xs.all isPW && decide (((xs.filterMap isStr).eraseDups.length : Nat) = xs.length)))
theorem all_pw {xs : List D} (h : xs.all isPW = true) : xs = kl (xs.filterMap isStr) := by
  induction xs with
  | nil => rfl
  | cons x xs ih =>
    rw [List.all_cons, Bool.and_eq_true] at h
    cases x <;> simp only [isPW] at h <;> try (cases h.1; done)
    have := ih h.2
    simp only [List.filterMap_cons, isStr, kl, List.map_cons] at *
    rw [← this]
theorem f4_ok {d : D} {xs : List D} {lo hi : Int} (h : 2 ≤ n) (hd : Sq d xs) (hx : ∀ x ∈ xs, Simple x) (hl : xs.length ≤ 4000) : (L n).call 4 [d, .int lo, .int hi] s = .ok (.bl (unl xs lo hi)) s := by
  rw [ca4 (by omega)]
  have ez : z0 Co.N4 ([d, D.int lo, D.int hi].map some) = ⟨[some d, some (.int lo), some (.int hi), none], [], []⟩ := rfl
  unfold runF Co.c4
  rw [ez]
  have e2 := f2_yes (n := n - 1) (s := s) (by omega) hd
  have e3 := (items_sq hd).2
  have e4 := comp_pw (m := n - 1) (s := s) (a := .int lo) (b := .int hi) (by omega) hd hx (by unfold LIM; omega)
  have e5 := all_bl (p := isPW) xs
  unfold unl
  generalize (C.comp [(("word" : Str), 3)] (.call 3 (.cons (.var 3) .nil)) (.nm 3) (.var 0) .nop) = cc at e4 ⊢
  by_cases h1 : lo ≤ (xs.length : Int)
  · by_cases h2 : (xs.length : Int) ≤ hi
    · cases h3 : xs.all isPW with
      | false =>
        rw [h3] at e5
        simp [evS, evB, ev, evL, e2, e3, e4, e5, cmpD, h1, h2, ofO, D.truth, endF]
      | true =>
        rw [h3] at e5
        have hk := all_pw h3
        have hls : (xs.filterMap isStr).length = xs.length := by
          have := congrArg List.length hk
          rw [kl, List.length_map] at this; exact this.symm
        have e6 : bltD .lenSet d = some (.int ((xs.filterMap isStr).eraseDups.length : Nat)) := by
          have := lenSet_kl (ws := xs.filterMap isStr) (by omega)
          rw [← hk] at this
          rcases hd with rfl | rfl
          · exact this.1
          · exact this.2
        have e7 : cmpR Co.P0 (L (n - 1)) .Eq (.int ((xs.filterMap isStr).eraseDups.length : Nat)) (.int xs.length) s = .ok (.bl (decide (((xs.filterMap isStr).eraseDups.length : Nat) = xs.length))) s := by
          rw [cmpR_of rfl]
          have eb : ∀ a b : Nat, ((a : Int) == (b : Int)) = decide (a = b) := fun a b => by
            by_cases e : a = b
            · simp [e]
            · simp [e]; omega
          simp [cmpD, pyEq, D.pyS, D.toPy, PyData.depth, PyData.eqv, ofO, eb]
        simp [evS, evB, ev, evL, e2, e3, e4, e5, e6, e7, cmpD, h1, h2, ofO, D.truth, endF]
    · simp [evS, evB, ev, evL, e2, e3, cmpD, h1, h2, ofO, D.truth, endF]
  · simp [evS, evB, ev, evL, e2, e3, cmpD, h1, ofO, D.truth, endF]
theorem f4_no {d : D} {lo hi : Int} (h : 2 ≤ n) (hd : d = .non ∨ (∃ i, d = .int i) ∨ (∃ w, d = .str w) ∨ ∃ k l, d = .dct k l) : (L n).call 4 [d, .int lo, .int hi] s = .ok (.bl false) s := by
  rw [ca4 (by omega)]
  have ez : z0 Co.N4 ([d, D.int lo, D.int hi].map some) = ⟨[some d, some (.int lo), some (.int hi), none], [], []⟩ := rfl
  unfold runF Co.c4
  rw [ez]
  have e2 := f2_no (n := n - 1) (s := s) (by omega) hd
  simp [evS, evB, ev, evL, e2, D.truth, ofO, endF]
end
end Pl
end Ah

/-! ## K00s -/
set_option Elab.async false
set_option linter.all false
set_option maxRecDepth 100000
set_option maxHeartbeats 4000000
namespace Ah
open PySem PySem.Spec PyProof.Rows L2
namespace Pl
/-- a yard -/
abbrev Y (K T : List Str) : D := .ins 0 [.tup (kl K), .tup (kl T)]
theorem pw_ok {w : Str} (h : plainW w = true) : w.length ≤ 8 := by
  unfold plainW at h
  simp only [Bool.and_eq_true, decide_eq_true_eq] at h
  omega
theorem cls0 : Co.P0.cls[0]? = some ⟨"Yard", ["y_kinds", "y_tools"], 5, [("kinds", 6), ("tools", 7)], some 8⟩ := rfl
/-- words that a yard takes -/
structure Ok (K T : List Str) : Prop where
  k1 : 1 ≤ K.length
  k2 : K.length ≤ 40
  t2 : T.length ≤ 2
  pk : ∀ w ∈ K, plainW w = true
  pt : ∀ w ∈ T, plainW w = true
  sk : ∀ w ∈ K, sOk w = true
  st : ∀ w ∈ T, sOk w = true
  nk : K.Nodup
  nt : T.Nodup
  dj : ∀ w ∈ T, w ∉ K
theorem simple_kl {ws : List Str} : ∀ x ∈ kl ws, Simple x := fun x hx => by
  obtain ⟨w, _, rfl⟩ := List.mem_map.mp hx
  exact .inl ⟨w, rfl⟩
theorem all_kl {ws : List Str} : (kl ws).all isPW = ws.all plainW := by
  rw [kl, List.all_map]; rfl
theorem fm_kl (ws : List Str) : (kl ws).filterMap isStr = ws := by
  induction ws with
  | nil => rfl
  | cons w ws ih => rw [kl, List.map_cons, List.filterMap_cons]; rw [kl] at ih; rw [ih]; rfl
theorem unl_kl {ws : List Str} {lo hi : Int} (h1 : lo ≤ ws.length) (h2 : (ws.length : Int) ≤ hi) (h3 : ∀ w ∈ ws, plainW w = true) (h4 : ws.Nodup) : unl (kl ws) lo hi = true := by
  unfold unl
  rw [all_kl, fm_kl, dups_nodup h4, kl, List.length_map]
  simp [h1, h2, List.all_eq_true.mpr h3]
section
variable {n : Nat} {s : Dr} {K T : List Str}
/-- w in kinds, be these a list or a tuple -/
theorem in_sq {w : Str} {d : D} (hd : Sq d (kl K)) (hw : sOk w = true) (hk : ∀ w ∈ K, sOk w = true) : pyIn (.str w) d = some (decide (w ∈ K)) := by
  rcases hd with rfl | rfl
  · exact in_lst w K
  · exact in_tup hw hk
theorem mk_ok {k t : D} (h : 3 ≤ n) (o : Ok K T) (hk : Sq k (kl K)) (ht : Sq t (kl T)) : (L n).make 0 [k, t] s = .ok (Y K T) s := by
  rw [mk0 (by omega)]
  have ez : z0 Co.N5 (none :: [k, t].map some) = ⟨[none, some k, some t, none], [], []⟩ := rfl
  unfold runI Co.c5
  rw [ez]
  have l1 : (kl K).length = K.length := List.length_map ..
  have l2 : (kl T).length = T.length := List.length_map ..
  have o1 := o.k2
  have o2 := o.t2
  have e1 := f4_ok (n := n - 1) (s := s) (lo := 1) (hi := 40) (by omega) hk simple_kl (by omega)
  rw [unl_kl (by have := o.k1; omega) (by omega) o.pk o.nk] at e1
  have e2 := f4_ok (n := n - 1) (s := s) (lo := 0) (hi := 2) (by omega) ht simple_kl (by omega)
  rw [unl_kl (by omega) (by omega) o.pt o.nt] at e2
  have e3 : ev Co.P0 (L (n - 1)) (.comp [("word", 3)] (.var 3) (.nm 3) (.var 2) (.cmp .In (.var 3) (.var 1))) [none, some k, some t, none] s = .ok (.lst []) s := by
    have := ev_cf (P := Co.P0) (cl := L (n - 1)) (own := [("word", 3)]) (e := .var 3) (it := .var 2) (c := .cmp .In (.var 3) (.var 1)) (i := 3) (env := [none, some k, some t, none]) (s := s) (x := t) (xs := kl T) (g := id) (p := fun d => match d with | .str w => decide (w ∈ K) | _ => false) rfl (by simp [ev]) (items_sq ht).1 (by unfold LIM; omega)
      (fun y hy => by
        obtain ⟨w, hw, rfl⟩ := List.mem_map.mp hy
        refine ⟨.bl (decide (w ∈ K)), ?_, rfl⟩
        show ev Co.P0 (L (n - 1)) _ [none, some k, some t, some (.str w)] s = _
        simp [ev, cmpR, cmpD, in_sq hk (o.st w hw) o.sk, ofO])
      (fun y hy _ => by
        show ev Co.P0 (L (n - 1)) _ [none, some k, some t, some y] s = _
        simp [ev])
    have ef : (kl T).filter (fun d => match d with | .str w => decide (w ∈ K) | _ => false) = [] := by
      rw [List.filter_eq_nil_iff]
      intro x hx
      obtain ⟨w, hw, rfl⟩ := List.mem_map.mp hx
      simp [o.dj w hw]
    rw [ef] at this
    exact this
  have e4 : cmpR Co.P0 (L (n - 1)) .NotEq (.lst []) (.lst []) s = .ok (.bl false) s := rfl
  have ef : (Co.cls.getD 0 ⟨Str.empty, [], 0, [], none⟩).flds.length = 2 := rfl
  generalize (C.comp [(("word" : Str), 3)] (.var 3) (.nm 3) (.var 2) (.cmp .In (.var 3) (.var 1))) = cc at e3 ⊢
  have b1 : bltD .tuple k = some (.tup (kl K)) := by rcases hk with rfl | rfl <;> rfl
  have b2 : bltD .tuple t = some (.tup (kl T)) := by rcases ht with rfl | rfl <;> rfl
  simp [evS, evB, ev, evL, e1, e2, e3, e4, D.truth, ofO, R.lim, b1, b2, endI, cls0]
  rfl
theorem mk_badK {k t : D} (h : 3 ≤ n) (e : ∀ s, (L (n - 1)).call 4 [k, .int 1, .int 40] s = .ok (.bl false) s) : (L n).make 0 [k, t] s = .exc 1 [] s := by
  rw [mk0 (by omega)]
  have ez : z0 Co.N5 (none :: [k, t].map some) = ⟨[none, some k, some t, none], [], []⟩ := rfl
  unfold runI Co.c5
  rw [ez]
  simp [evS, evB, ev, evL, e s, D.truth, ofO, endI]
theorem mk_badT {k t : D} (h : 3 ≤ n) (e0 : ∀ s, (L (n - 1)).call 4 [k, .int 1, .int 40] s = .ok (.bl true) s) (e : ∀ s, (L (n - 1)).call 4 [t, .int 0, .int 2] s = .ok (.bl false) s) : (L n).make 0 [k, t] s = .exc 4 [] s := by
  rw [mk0 (by omega)]
  have ez : z0 Co.N5 (none :: [k, t].map some) = ⟨[none, some k, some t, none], [], []⟩ := rfl
  unfold runI Co.c5
  rw [ez]
  simp [evS, evB, ev, evL, e s, e0 s, D.truth, ofO, endI]
theorem at_k {a b : D} (h : 1 ≤ n) : attR Co.P0 (L n) "kinds" (.ins 0 [a, b]) s = .ok a s := by
  obtain ⟨m, rfl⟩ := lv h; rfl
theorem at_t {a b : D} (h : 1 ≤ n) : attR Co.P0 (L n) "tools" (.ins 0 [a, b]) s = .ok b s := by
  obtain ⟨m, rfl⟩ := lv h; rfl
/-- == of two yards -/
theorem eq_yy {K' T' : List Str} (h : 2 ≤ n) : (L n).call 8 [Y K T, Y K' T'] s = .ok (.bl (decide (K = K' ∧ T = T'))) s := by
  rw [ca8 (by omega)]
  have ez : z0 Co.N8 ([Y K T, Y K' T'].map some) = ⟨[some (Y K T), some (Y K' T')], [], []⟩ := rfl
  unfold runF Co.c8
  rw [ez]
  have a1 := fun a b => at_k (n := n - 1) (s := s) (a := a) (b := b) (by omega)
  have a2 := fun a b => at_t (n := n - 1) (s := s) (a := a) (b := b) (by omega)
  have hl : (0 + 1 + 1 : Nat) ≤ LIM := by decide
  have e1 : cmpR Co.P0 (L (n - 1)) .Eq (.tup [.tup (kl K), .tup (kl T)]) (.tup [.tup (kl K'), .tup (kl T')]) s = .ok (.bl (decide (K = K' ∧ T = T'))) s := by
    rw [cmpR_of rfl]; simp only [cmpD, eq_tt]; rfl
  simp [evS, ev, evL, D.ty, isiL, ofO, D.truth, a1, a2, R.lim, hl, e1, endF]
theorem eq_yn {d : D} (h : 2 ≤ n) (hd : d = .non ∨ ∃ l, d = .tup l) : (L n).call 8 [Y K T, d] s = .ok (.bl false) s := by
  rcases hd with rfl | ⟨l, rfl⟩ <;> rw [ca8 (by omega)] <;> simp [runF, Co.c8, z0, Co.N8, evS, ev, D.ty, isiL, ofO, D.truth, endF]
theorem cmp_yy {K' T' : List Str} (h : 2 ≤ n) : cmpR Co.P0 (L n) .Eq (Y K T) (Y K' T') s = .ok (.bl (decide (K = K' ∧ T = T'))) s ∧ cmpR Co.P0 (L n) .NotEq (Y K T) (Y K' T') s = .ok (.bl (!decide (K = K' ∧ T = T'))) s := by
  have e := eq_yy (K := K) (T := T) (K' := K') (T' := T') (s := s) h
  constructor <;> · show R.bind ((L n).call 8 [Y K T, Y K' T'] s) _ = _; rw [e]; rfl
theorem cmp_yn {d : D} (h : 2 ≤ n) (hd : d = .non ∨ ∃ l, d = .tup l) : cmpR Co.P0 (L n) .Eq (Y K T) d s = .ok (.bl false) s := by
  have e := eq_yn (K := K) (T := T) (s := s) h hd
  rcases hd with rfl | ⟨l, rfl⟩ <;> · show R.bind ((L n).call 8 _ s) _ = _; rw [e]; rfl
theorem f9_ok (h : 1 ≤ n) : (L n).call 9 [Y K T] s = .ok .non s := by
  rw [ca9 h]; simp [runF, Co.c9, z0, Co.N9, evS, evB, ev, D.ty, isiL, ofO, D.truth, endF]
theorem f9_no {d : D} (h : 1 ≤ n) (hd : d = .non ∨ ∃ l, d = .tup l) : (L n).call 9 [d] s = .exc 6 [] s := by
  rcases hd with rfl | ⟨l, rfl⟩ <;> rw [ca9 h] <;> simp [runF, Co.c9, z0, Co.N9, evS, evB, ev, D.ty, isiL, ofO, D.truth, endF]
theorem f10_str {w : Str} (h : 2 ≤ n) (hw : sOk w = true) (hk : ∀ w ∈ K, sOk w = true) : (L n).call 10 [Y K T, .str w] s = .ok (.bl (decide (w ∈ K))) s := by
  rw [ca10 (by omega)]
  have a1 := fun a b => at_k (n := n - 1) (s := s) (a := a) (b := b) (by omega)
  simp [runF, Co.c10, z0, Co.N10, evS, ev, D.ty, isiL, ofO, D.truth, a1, cmpR, cmpD, in_tup hw hk, endF]
theorem f11_str {w : Str} (h : 2 ≤ n) (hw : sOk w = true) (hk : ∀ w ∈ T, sOk w = true) : (L n).call 11 [Y K T, .str w] s = .ok (.bl (decide (w ∈ T))) s := by
  rw [ca11 (by omega)]
  have a1 := fun a b => at_t (n := n - 1) (s := s) (a := a) (b := b) (by omega)
  simp [runF, Co.c11, z0, Co.N11, evS, ev, D.ty, isiL, ofO, D.truth, a1, cmpR, cmpD, in_tup hw hk, endF]
def NoStr (d : D) : Prop := d = .non ∨ (∃ i, d = .int i) ∨ (∃ b, d = .bl b) ∨ (∃ l, d = .lst l) ∨ ∃ l, d = .tup l
theorem f10_no {y d : D} (h : 1 ≤ n) (hd : NoStr d) : (L n).call 10 [y, d] s = .ok (.bl false) s := by
  rcases hd with rfl | ⟨i, rfl⟩ | ⟨b, rfl⟩ | ⟨l, rfl⟩ | ⟨l, rfl⟩ <;> rw [ca10 h] <;> simp [runF, Co.c10, z0, Co.N10, evS, ev, D.ty, isiL, ofO, D.truth, endF]
theorem f11_no {y d : D} (h : 1 ≤ n) (hd : NoStr d) : (L n).call 11 [y, d] s = .ok (.bl false) s := by
  rcases hd with rfl | ⟨i, rfl⟩ | ⟨b, rfl⟩ | ⟨l, rfl⟩ | ⟨l, rfl⟩ <;> rw [ca11 h] <;> simp [runF, Co.c11, z0, Co.N11, evS, ev, D.ty, isiL, ofO, D.truth, endF]
theorem f3_ns {d : D} (h : 1 ≤ n) (hd : NoStr d) : (L n).call 3 [d] s = .ok (.bl false) s := f3_no h hd
end
end Pl
end Ah

/-! ## K00u -/
set_option Elab.async false
set_option linter.all false
set_option maxRecDepth 100000
set_option maxHeartbeats 4000000
namespace Ah
open PySem PySem.Spec PyProof.Rows L2
namespace Pl
section
variable {n : Nat} {s : Dr} {K T : List Str}
/-! ### renaming -/
def ren (w o : Str) (ws : List Str) : List Str := ws.map fun h => if h = w then o else h
theorem eq_str {cl : Cl} (a b : Str) : cmpR Co.P0 cl .Eq (.str a) (.str b) s = .ok (.bl (decide (a = b))) s := by
  rw [cmpR_of rfl]
  simp only [cmpD, pyEq, pys_str, PyData.eqv]
  by_cases h : a = b <;> simp [h, ofO]
theorem f12_5 {d o : D} (h : 3 ≤ n) (e1 : ∀ s, (L (n - 1)).call 10 [Y K T, d] s = .ok (.bl false) s) (e2 : ∀ s, (L (n - 1)).call 11 [Y K T, d] s = .ok (.bl false) s) : (L n).call 12 [Y K T, d, o] s = .exc 5 [] s := by
  rw [ca12 (by omega)]
  simp [runF, Co.c12, z0, Co.N12, evS, evB, ev, evL, e1, e2, D.truth, ofO, endF]
theorem f12_3 {d o : D} {b1 b2 : Bool} (h : 3 ≤ n) (e1 : ∀ s, (L (n - 1)).call 10 [Y K T, d] s = .ok (.bl b1) s) (e2 : ∀ s, (L (n - 1)).call 11 [Y K T, d] s = .ok (.bl b2) s) (hb : b1 = true ∨ b2 = true) {c1 c2 c3 : Bool} (e3 : ∀ s, (L (n - 1)).call 3 [o] s = .ok (.bl c1) s) (e4 : ∀ s, (L (n - 1)).call 10 [Y K T, o] s = .ok (.bl c2) s) (e5 : ∀ s, (L (n - 1)).call 11 [Y K T, o] s = .ok (.bl c3) s) :
    (L n).call 12 [Y K T, d, o] s = if c1 = true ∧ c2 = false ∧ c3 = false then .ok .non s else .exc 3 [] s := by
  rw [ca12 (by omega)]
  cases b1 <;> cases b2 <;> cases c1 <;> cases c2 <;> cases c3 <;> simp at hb <;> simp [runF, Co.c12, z0, Co.N12, evS, evB, ev, evL, e1, e2, e3, e4, e5, D.truth, ofO, endF]
theorem f13_ok {d : D} {b : Bool} (h : 2 ≤ n) (e : ∀ s, (L (n - 1)).call 3 [d] s = .ok (.bl b) s) : (L n).call 13 [d] s = .ok (.bl b) s := by
  rw [ca13 (by omega)]
  simp [runF, Co.c13, z0, Co.N13, evS, ev, evL, e, endF]
theorem ren_ev {cl : Cl} {env : En} {w o : Str} {ws : List Str} {it : C} {d : D} (hd : Sq d (kl ws)) (hw : ws.length ≤ LIM) (he : ev Co.P0 cl it env s = .ok d s) (h1 : (wipeE env [5])[1]? = some (some (.str w))) (h2 : (wipeE env [5])[2]? = some (some (.str o))) (hl : 5 < (wipeE env [5]).length) :
    ev Co.P0 cl (.comp [("here", 5)] (.ife (.cmp .Eq (.var 5) (.var 1)) (.var 2) (.var 5)) (.nm 5) it .nop) env s = .ok (.lst (kl (ren w o ws))) s := by
  have e := ev_cm (P := Co.P0) (cl := cl) (own := [("here", 5)]) (e := .ife (.cmp .Eq (.var 5) (.var 1)) (.var 2) (.var 5)) (i := 5) (env := env) (s := s) (x := d) (xs := kl ws) (g := fun d => match d with | .str h => .str (if h = w then o else h) | d => d) he (items_sq hd).1 (by rw [kl, List.length_map]; exact hw) (fun y hy => by
    obtain ⟨x, hx, rfl⟩ := List.mem_map.mp hy
    show ev Co.P0 cl _ ((wipeE env [5]).set 5 (some (.str x))) s = _
    have g1 : ((wipeE env [5]).set 5 (some (.str x)))[1]? = some (some (.str w)) := by rw [List.getElem?_set_ne (by decide)]; exact h1
    have g2 : ((wipeE env [5]).set 5 (some (.str x)))[2]? = some (some (.str o)) := by rw [List.getElem?_set_ne (by decide)]; exact h2
    have g5 : ((wipeE env [5]).set 5 (some (.str x)))[5]? = some (some (.str x)) := List.getElem?_set_self hl
    generalize (wipeE env [5]).set 5 (some (.str x)) = en at g1 g2 g5 ⊢
    by_cases hxw : x = w <;> simp [ev, g1, g2, g5, eq_str, D.truth, hxw])
  rw [e]
  simp [ren, kl, Function.comp_def]
theorem ren_ok {w o : Str} (ok : Ok K T) (po : plainW o = true) (so : sOk o = true) (ok1 : o ∉ K) (ok2 : o ∉ T) : Ok (ren w o K) (ren w o T) := by
  have mem : ∀ {ws : List Str} {x : Str}, x ∈ ren w o ws → x = o ∨ x ∈ ws := fun {ws x} hx => by
    obtain ⟨y, hy, rfl⟩ := List.mem_map.mp hx
    by_cases h : y = w <;> simp [h]
    rw [if_neg h] at *; exact .inr hy
  have nd : ∀ {ws : List Str}, ws.Nodup → o ∉ ws → (ren w o ws).Nodup := fun {ws} h1 h2 => by
    unfold ren
    induction ws with
    | nil => exact List.nodup_nil
    | cons x ws ih =>
      rw [List.nodup_cons] at h1
      rw [List.map_cons, List.nodup_cons]
      have h3 : o ≠ x := fun e => h2 (e ▸ List.mem_cons_self)
      have h4 : o ∉ ws := fun e => h2 (List.mem_cons_of_mem _ e)
      refine ⟨fun hm => ?_, ih h1.2 h4⟩
      obtain ⟨y, hy, e⟩ := List.mem_map.mp hm
      by_cases a : y = w <;> by_cases b : x = w
      · subst a; subst b; exact h1.1 hy
      · rw [if_pos a, if_neg b] at e; exact h3 e
      · rw [if_neg a, if_pos b] at e; subst e; exact h4 hy
      · rw [if_neg a, if_neg b] at e; subst e; exact h1.1 hy
  have dj : ∀ x ∈ ren w o T, x ∉ ren w o K := fun x h1 h2 => by
    obtain ⟨y, hy, e1⟩ := List.mem_map.mp h1
    obtain ⟨y', hy', e2⟩ := List.mem_map.mp h2
    by_cases a : y = w <;> by_cases b : y' = w
    · subst a; subst b; exact ok.dj _ hy hy'
    · rw [if_pos a] at e1; rw [if_neg b] at e2; subst e1; rw [e2] at hy'; exact ok1 hy'
    · rw [if_neg a] at e1; rw [if_pos b] at e2; subst e2; rw [e1] at hy; exact ok2 hy
    · rw [if_neg a] at e1; rw [if_neg b] at e2; subst e1; rw [e2] at hy'; exact ok.dj _ hy hy'
  have ll : ∀ ws : List Str, (ren w o ws).length = ws.length := fun ws => List.length_map ..
  refine ⟨by rw [ll]; exact ok.k1, by rw [ll]; exact ok.k2, by rw [ll]; exact ok.t2, fun x hx => ?_, fun x hx => ?_, fun x hx => ?_, fun x hx => ?_, nd ok.nk ok1, nd ok.nt ok2, dj⟩
  · exact (mem hx).elim (fun e => e ▸ po) (ok.pk x)
  · exact (mem hx).elim (fun e => e ▸ po) (ok.pt x)
  · exact (mem hx).elim (fun e => e ▸ so) (ok.sk x)
  · exact (mem hx).elim (fun e => e ▸ so) (ok.st x)
theorem f14_ok {w o : Str} (h : 4 ≤ n) (ok : Ok K T) (ok' : Ok (ren w o K) (ren w o T)) : (L n).call 14 [Y K T, .str w, .str o] s = .ok (Y (ren w o K) (ren w o T)) s := by
  rw [ca14 (by omega)]
  unfold runF Co.c14
  have ez : z0 Co.N14 ([Y K T, D.str w, D.str o].map some) = ⟨[some (Y K T), some (.str w), some (.str o), none, none, none], [], []⟩ := rfl
  rw [ez]
  have a1 := fun a b => at_k (n := n - 1) (s := s) (a := a) (b := b) (by omega)
  have a2 := fun a b => at_t (n := n - 1) (s := s) (a := a) (b := b) (by omega)
  have lK : K.length ≤ LIM := by have := ok.k2; unfold LIM; omega
  have lT : T.length ≤ LIM := by have := ok.t2; unfold LIM; omega
  have hl : (0 + 1 + 1 : Nat) ≤ LIM := by decide
  have e := ev_cm (P := Co.P0) (cl := L (n - 1)) (own := [("some", 4)]) (e := .comp [("here", 5)] (.ife (.cmp .Eq (.var 5) (.var 1)) (.var 2) (.var 5)) (.nm 5) (.var 4) .nop) (i := 4) (it := .tup (.cons (.att (.var 0) "kinds") (.cons (.att (.var 0) "tools") .nil)))
    (env := [some (Y K T), some (.str w), some (.str o), none, none, none]) (s := s) (x := .tup [.tup (kl K), .tup (kl T)]) (xs := [.tup (kl K), .tup (kl T)]) (g := fun d => match d with | .tup ws => .lst (kl (ren w o (ws.filterMap isStr))) | d => d) (by simp [ev, evL, a1, a2, R.lim, hl]) rfl (by show 2 ≤ LIM; decide) (fun y hy => by
      rcases List.mem_cons.mp hy with rfl | hy
      · show ev Co.P0 (L (n - 1)) _ [some (Y K T), some (.str w), some (.str o), none, some (.tup (kl K)), none] s = _
        rw [ren_ev (d := .tup (kl K)) (ws := K) (w := w) (o := o) (.inr rfl) lK (by simp [ev]) rfl rfl (by show 5 < 6; decide)]
        simp only [fm_kl]
      · rcases List.mem_cons.mp hy with rfl | hy
        · show ev Co.P0 (L (n - 1)) _ [some (Y K T), some (.str w), some (.str o), none, some (.tup (kl T)), none] s = _
          rw [ren_ev (d := .tup (kl T)) (ws := T) (w := w) (o := o) (.inr rfl) lT (by simp [ev]) rfl rfl (by show 5 < 6; decide)]
          simp only [fm_kl]
        · cases hy)
  simp only [List.map_cons, List.map_nil, fm_kl] at e
  have em := mk_ok (n := n - 1) (s := s) (k := .lst (kl (ren w o K))) (t := .lst (kl (ren w o T))) (by omega) ok' (.inl rfl) (.inl rfl)
  generalize (C.comp [(("some" : Str), 4)] _ (.nm 4) _ .nop) = cc at e ⊢
  have i0 : ∀ a b : D, idxD (.lst [a, b]) (.int 0) = some a := fun _ _ => rfl
  have i1 : ∀ a b : D, idxD (.lst [a, b]) (.int 1) = some b := fun _ _ => rfl
  simp [evS, ev, evL, e, i0, i1, ofO, em, endF]
theorem f15_ok {w o : Str} (h : 5 ≤ n) (e : ∀ s, (L (n - 1)).call 12 [Y K T, .str w, .str o] s = .ok .non s) (e2 : ∀ s, (L (n - 1)).call 14 [Y K T, .str w, .str o] s = .ok (Y (ren w o K) (ren w o T)) s) : (L n).call 15 [Y K T, .str w, .str o] s = .ok (Y (ren w o K) (ren w o T)) s := by
  rw [ca15 (by omega)]
  have e9 := f9_ok (n := n - 1) (K := K) (T := T) (s := s) (by omega)
  simp [runF, Co.c15, z0, Co.N15, evS, ev, evL, e9, e s, e2 s, endF]
theorem f15_x {d o : D} {c : Nat} (h : 5 ≤ n) (e : ∀ s, (L (n - 1)).call 12 [Y K T, d, o] s = .exc c [] s) : (L n).call 15 [Y K T, d, o] s = .exc c [] s := by
  rw [ca15 (by omega)]
  have e9 := f9_ok (n := n - 1) (K := K) (T := T) (s := s) (by omega)
  simp [runF, Co.c15, z0, Co.N15, evS, ev, evL, e9, e s, endF]
theorem f15_6 {d w o : D} (h : 5 ≤ n) (hd : d = .non ∨ ∃ l, d = .tup l) : (L n).call 15 [d, w, o] s = .exc 6 [] s := by
  rw [ca15 (by omega)]
  have e9 := f9_no (n := n - 1) (s := s) (by omega) hd
  simp [runF, Co.c15, z0, Co.N15, evS, ev, evL, e9, endF]
end
end Pl
end Ah

/-! ## K00v -/
set_option Elab.async false
set_option linter.all false
set_option maxRecDepth 100000
set_option maxHeartbeats 4000000
namespace Ah
open PySem PySem.Spec PyProof.Rows L2
theorem cut_take {α : Type} (xs : List α) (r : Nat) : cutD xs none (some (r : Int)) = xs.take r := by
  unfold cutD
  have e0 : HT.sIx xs.length 0 none = 0 := rfl
  have e1 : HT.sIx xs.length xs.length (some (r : Int)) = min r xs.length := by
    simp [HT.sIx]
    try omega
  rw [e0, e1, List.drop_zero, Nat.sub_zero]
  by_cases h : r ≤ xs.length
  · rw [Nat.min_eq_left h]
  · rw [Nat.min_eq_right (by omega), List.take_of_length_le (by omega), List.take_of_length_le (by omega)]
theorem kl_app (a b : List Str) : kl a ++ kl b = kl (a ++ b) := (List.map_append ..).symm
theorem add_kl {a b : List Str} (h : a.length + b.length ≤ LIM) : opD .Add (.lst (kl a)) (.lst (kl b)) = some (.lst (kl (a ++ b))) := by
  simp only [opD]
  rw [if_pos (by rw [kl, List.length_map, List.length_map]; exact h), kl_app]
theorem take_kl (a : List Str) (r : Nat) : (kl a).take r = kl (a.take r) := (List.map_take ..).symm
section
variable {P : Prg} {cl : Cl}
theorem ev_c2 {own : List (Str × Nat)} {e it it2 : C} {i j : Nat} {env : En} {s : Dr} {x0 y0 : D} {xs ys : List D} {g : D → D → D} (hit : ev P cl it env s = .ok x0 s) (hx : items x0 = some xs)
    (hit2 : ∀ x ∈ xs, ev P cl it2 ((wipeE env (own.map (·.2))).set i (some x)) s = .ok y0 s) (hy : items y0 = some ys) (hl : (xs.flatMap fun x => ys.map (g x)).length ≤ LIM)
    (h : ∀ x ∈ xs, ∀ y ∈ ys, ev P cl e ((wipeE ((wipeE env (own.map (·.2))).set i (some x)) [j]).set j (some y)) s = .ok (g x y) s) : ev P cl (.comp2 own e (.nm i) it (.nm j) it2 .nop) env s = .ok (.lst (xs.flatMap fun x => ys.map (g x))) s := by
  simp only [ev, hit, R.bind_ok, hx, ofO]
  rw [mapR_fm (g := fun x => ys.map (g x))]
  · simp only [R.quiet, R.lim, R.bind_ok]
    rw [if_pos hl]
    rfl
  · intro x hx'
    simp only [Tg.put, hit2 x hx', R.bind_ok, hy, Tg.ixs]
    rw [mapR_map (g := g x)]
    intro y hy'
    simp [isNop, h x hx' y hy']
end
namespace Pl
/-! ### fresh words -/
def LETc : List Str := LET.cps.toList.map fun c => ⟨#[c]⟩
def E2 : List Str := LETc.flatMap fun a => LETc.map fun b => a ++ b
def E7 : List Str := LETc ++ E2
def E1 : List Str := (["a", "b", "c"] : List Str).foldl (fun (acc : List Str) (one : Str) => acc ++ LETc.map fun b => one ++ b) LETc
theorem it_LET : items (.str LET) = some (kl LETc) := by simp only [items, kl, LETc, List.map_map]; rfl
theorem ls_LET : bltD .list (.str LET) = some (.lst (kl LETc)) := by simp only [bltD, kl, LETc, List.map_map]; rfl
theorem LETc_len : LETc.length = 26 := by decide +kernel
theorem E7_len : E7.length = 702 := by decide +kernel
theorem E7_pre : E7.take 104 = E1 := by decide +kernel
theorem E1_len : E1.length = 104 := by decide +kernel
theorem E1_nd : E1.Nodup := by decide +kernel
theorem E7_ok : ∀ w ∈ E7, sOk w = true := by decide +kernel
theorem LETc_1 : ∀ w ∈ LETc, w.length = 1 := by decide +kernel
/-- not among the kinds, the tools -/
def nin (K T : List Str) (w : Str) : Bool := decide (w ∉ K) && decide (w ∉ T)
section
variable {n : Nat} {s : Dr} {K T : List Str}
theorem f16_ok {r : Nat} (h : 2 ≤ n) (ok : Ok K T) : (L n).call 16 [Y K T, .int r] s = .ok (.tup (kl ((E7.filter (nin K T)).take r))) s := by
  rw [ca16 (by omega)]
  unfold runF Co.c16
  have ez : z0 Co.N16 ([Y K T, D.int r].map some) = ⟨[some (Y K T), some (.int r), none, none, none, none], [], []⟩ := rfl
  rw [ez]
  have a1 := fun a b => at_k (n := n - 1) (s := s) (a := a) (b := b) (by omega)
  have a2 := fun a b => at_t (n := n - 1) (s := s) (a := a) (b := b) (by omega)
  have eL : (kl LETc).length = 26 := by rw [kl, List.length_map]; exact LETc_len
  have e1 := ev_c2 (P := Co.P0) (cl := L (n - 1)) (own := [("one", 3), ("other", 4)]) (e := .bin .Add (.var 3) (.var 4)) (i := 3) (j := 4) (it := .gcon 0) (it2 := .gcon 0) (env := [some (Y K T), some (.int r), none, none, none, none]) (s := s) (x0 := .str LET) (y0 := .str LET) (xs := kl LETc) (ys := kl LETc)
    (g := fun a b => match a, b with | .str a, .str b => .str (a ++ b) | _, _ => .non) (by simp [ev]) it_LET (fun x _ => by simp [ev]) it_LET (by
      have : ∀ (f : D → List D) (xs : List D), (∀ x, (f x).length = 26) → (xs.flatMap f).length = xs.length * 26 := fun f xs hf => by
        induction xs with
        | nil => rfl
        | cons x xs ih => rw [List.flatMap_cons, List.length_append, ih, hf, List.length_cons]; omega
      rw [this _ _ fun x => by rw [List.length_map, eL], eL]; decide) (fun x hx y hy => by
      obtain ⟨a, ha, rfl⟩ := List.mem_map.mp hx
      obtain ⟨b, hb, rfl⟩ := List.mem_map.mp hy
      show ev Co.P0 (L (n - 1)) _ [some (Y K T), some (.int r), none, some (.str a), some (.str b), none] s = _
      have : opD .Add (.str a) (.str b) = some (.str (a ++ b)) := by
        simp only [opD]; rw [LETc_1 a ha, LETc_1 b hb]; rfl
      simp [ev, this, ofO])
  have e2 : ((kl LETc).flatMap fun x => (kl LETc).map ((fun a b => match a, b with | .str a, .str b => .str (a ++ b) | _, _ => .non : D → D → D) x)) = kl E2 := by
    simp only [kl, E2, List.flatMap_map, List.map_flatMap, List.map_map]; rfl
  rw [e2] at e1
  have e3 : opD .Add (.lst (kl LETc)) (.lst (kl E2)) = some (.lst (kl E7)) := add_kl (by
    have := E7_len
    unfold E7 at this
    rw [List.length_append] at this
    rw [this]; decide)
  have e4 := ev_cf (P := Co.P0) (cl := L (n - 1)) (own := [("word", 5)]) (e := .var 5) (it := .var 2) (c := .and (.cmp .NotIn (.var 5) (.att (.var 0) "kinds")) (.cmp .NotIn (.var 5) (.att (.var 0) "tools"))) (i := 5) (env := [some (Y K T), some (.int r), some (.lst (kl E7)), none, none, none]) (s := s) (x := .lst (kl E7)) (xs := kl E7) (g := id) (p := fun d => match d with | .str w => nin K T w | _ => false) rfl (by simp [ev]) rfl (by rw [kl, List.length_map, E7_len]; decide)
    (fun y hy => by
      obtain ⟨w, hw, rfl⟩ := List.mem_map.mp hy
      refine ⟨.bl (nin K T w), ?_, rfl⟩
      show ev Co.P0 (L (n - 1)) _ [some (Y K T), some (.int r), some (.lst (kl E7)), none, none, some (.str w)] s = _
      have c1 : cmpR Co.P0 (L (n - 1)) .NotIn (.str w) (.tup (kl K)) s = .ok (.bl (decide (w ∉ K))) s := by
        rw [cmpR_of rfl]; simp only [cmpD, in_tup (E7_ok w hw) ok.sk]; simp [ofO]
      have c2 : cmpR Co.P0 (L (n - 1)) .NotIn (.str w) (.tup (kl T)) s = .ok (.bl (decide (w ∉ T))) s := by
        rw [cmpR_of rfl]; simp only [cmpD, in_tup (E7_ok w hw) ok.st]; simp [ofO]
      by_cases hk : w ∈ K <;> simp [ev, a1, a2, c1, c2, D.truth, hk, nin])
    (fun y hy _ => by
      show ev Co.P0 (L (n - 1)) _ [some (Y K T), some (.int r), some (.lst (kl E7)), none, none, some y] s = _
      simp [ev])
  have e5 : ((kl E7).filter (fun d => match d with | .str w => nin K T w | _ => false)).map id = kl (E7.filter (nin K T)) := by
    rw [List.map_id, kl, List.filter_map]; rfl
  rw [e5] at e4
  have e6 : sliD (.lst (kl (E7.filter (nin K T)))) none (some (r : Int)) = some (.lst (kl ((E7.filter (nin K T)).take r))) := by
    simp only [sliD, cut_take, take_kl]
  generalize (C.comp2 [(("one" : Str), 3), ("other", 4)] (.bin .Add (.var 3) (.var 4)) (.nm 3) (.gcon 0) (.nm 4) (.gcon 0) .nop) = cc at e1 ⊢
  generalize (C.comp [(("word" : Str), 5)] (.var 5) (.nm 5) (.var 2) _) = cd at e4 ⊢
  have e7 : ∀ x : List D, bltD .tuple (.lst x) = some (.tup x) := fun _ => rfl
  simp [evS, ev, ls_LET, ofO, e1, e3, e4, e6, e7, isNop, endF]
theorem f1_int {i lo hi : Int} (h : 2 ≤ n) : (L n).call 1 [.int i, .int lo, .int hi] s = .ok (.bl (decide (lo ≤ i) && decide (i ≤ hi))) s := by
  rw [ca1 (by omega)]
  have e0 : (L (n - 1)).call 0 [.int i] s = .ok (.bl true) s := by
    rw [ca0 (by omega)]; simp [runF, Co.c0, z0, Co.N0, evS, ev, D.ty, isiL, ofO, D.truth, endF]
  by_cases h1 : lo ≤ i <;> simp [runF, Co.c1, z0, Co.N1, evS, ev, evL, e0, D.truth, cmpD, h1, ofO, endF]
theorem f1_no {d lo hi : D} (h : 2 ≤ n) (hd : d = .non ∨ (∃ b, d = .bl b) ∨ (∃ w, d = .str w)) : (L n).call 1 [d, lo, hi] s = .ok (.bl false) s := by
  rw [ca1 (by omega)]
  have e0 : (L (n - 1)).call 0 [d] s = .ok (.bl false) s := by
    rcases hd with rfl | ⟨b, rfl⟩ | ⟨w, rfl⟩ <;> rw [ca0 (by omega)] <;> simp [runF, Co.c0, z0, Co.N0, evS, ev, D.ty, isiL, ofO, D.truth, endF]
  simp [runF, Co.c1, z0, Co.N1, evS, ev, evL, e0, D.truth, endF]
theorem f17_ok {r : Nat} (h : 3 ≤ n) (ok : Ok K T) (hr : r ≤ 40) : (L n).call 17 [Y K T, .int r] s = .ok (.tup (kl ((E7.filter (nin K T)).take r))) s := by
  rw [ca17 (by omega)]
  have e9 := f9_ok (n := n - 1) (K := K) (T := T) (s := s) (by omega)
  have e1 := f1_int (n := n - 1) (s := s) (i := r) (lo := 0) (hi := 40) (by omega)
  have e2 := f16_ok (n := n - 1) (s := s) (r := r) (by omega) ok
  have h1 : (decide ((0 : Int) ≤ r) && decide ((r : Int) ≤ 40)) = true := by simp; omega
  rw [h1] at e1
  simp [runF, Co.c17, z0, Co.N17, evS, evB, ev, evL, e9, e1, e2, D.truth, ofO, endF]
theorem f17_2 {d : D} (h : 3 ≤ n) (e : ∀ s, (L (n - 1)).call 1 [d, .int 0, .int 40] s = .ok (.bl false) s) : (L n).call 17 [Y K T, d] s = .exc 2 [] s := by
  rw [ca17 (by omega)]
  have e9 := f9_ok (n := n - 1) (K := K) (T := T) (s := s) (by omega)
  simp [runF, Co.c17, z0, Co.N17, evS, evB, ev, evL, e9, e, D.truth, ofO, endF]
end
end Pl
end Ah

/-! ## K00w -/
set_option Elab.async false
set_option linter.all false
set_option maxRecDepth 100000
set_option maxHeartbeats 4000000
namespace Ah
open PySem PySem.Spec PyProof.Rows L2
namespace Pl
section
variable {n : Nat} {s : Dr} {K T : List Str}
/-- what is told of a yard -/
abbrev Tl (K T : List Str) : D := .tup [.lst (kl K), .lst (kl T)]
theorem tl0 (a b : D) : idxD (.tup [a, b]) (.int 0) = some a := rfl
theorem tl1 (a b : D) : idxD (.tup [a, b]) (.int 1) = some b := rfl
/-! ### the law's own fresh words -/
def stepF (S : List Str) (r : Nat) (acc : List Str) (w : Str) : List Str := acc ++ (if w ∉ S ∧ acc.length < r then [w] else [])
theorem fold_F (S : List Str) (r : Nat) : ∀ (E acc : List Str), acc.length ≤ r → E.foldl (stepF S r) acc = acc ++ (E.filter fun w => decide (w ∉ S)).take (r - acc.length)
  | [], acc, _ => by simp
  | w :: E, acc, h => by
    rw [List.foldl_cons, List.filter_cons]
    by_cases hw : w ∈ S
    · have : stepF S r acc w = acc := by simp [stepF, hw]
      rw [this, fold_F S r E acc h]; simp [hw]
    · by_cases hl : acc.length < r
      · have : stepF S r acc w = acc ++ [w] := by simp [stepF, hw, hl]
        rw [this, fold_F S r E (acc ++ [w]) (by rw [List.length_append, List.length_singleton]; omega)]
        have e : r - acc.length = (r - (acc ++ [w]).length) + 1 := by rw [List.length_append, List.length_singleton]; omega
        rw [e]
        simp [hw]
      · have : stepF S r acc w = acc := by simp [stepF, hl]
        rw [this, fold_F S r E acc h]
        have e : r - acc.length = 0 := by omega
        simp [e]
abbrev zF (told : D) (r : Nat) (every found : List Str) (a b c d : Option D) : Z := ⟨[some told, some (.int r), some (.lst (kl every)), a, b, some (.str LET), some (.lst (kl found)), c, d], [], []⟩
theorem body_F {cl : Cl} {fu : Nat} {A B AB X X1 : List D} {w : Str} {r m : Nat} {q p : Bool} {ev a l c d : Option D} (e1 : opD .Add (.lst A) (.lst B) = some (.lst AB)) (e2 : cmpR Co.P0 cl .NotIn (.str w) (.lst AB) s = .ok (.bl q) s) (eln : bltD .len (.lst X) = some (.int (m : Nat))) (ecmp : cmpR Co.P0 cl .Lt (.int (m : Nat)) (.int (r : Nat)) s = .ok (.bl p) s)
    (e3 : opD .Add (.lst X) (.lst [.str w]) = some (.lst X1)) (e4 : opD .Add (.lst X) (.lst []) = some (.lst X)) :
    evS Co.P0 cl fu (.seq (.asg (.nm 6) (.bin .Add (.var 6) (.ife (.and (.cmp .NotIn (.var 4) (.bin .Add (.idx (.var 0) (.int 0)) (.idx (.var 0) (.int 1)))) (.cmp .Lt (.blt .len (.var 6)) (.var 1))) (.lst (.cons (.var 4) .nil)) (.lst .nil)))) .pass) ⟨[some (.tup [.lst A, .lst B]), some (.int (r : Nat)), ev, a, some (.str w), l, some (.lst X), c, d], [], []⟩ s
      = .ok (.nx ⟨[some (.tup [.lst A, .lst B]), some (.int (r : Nat)), ev, a, some (.str w), l, some (.lst (if (q && p) = true then X1 else X)), c, d], [], []⟩) s := by
  have hl1 : (0 + 1 : Nat) ≤ LIM := by decide
  cases q <;> cases p <;> simp [evS, Ah.ev, evL, tl0, tl1, ofO, e1, e2, D.truth, R.lim, e3, e4, eln, ecmp, hl1]
theorem loop_F {cl : Cl} {fu r : Nat} {every : List Str} {a c d : Option D} (hS : (K ++ T).length + 1000 ≤ LIM) : ∀ (E acc : List Str) (b : Option D), (∀ w ∈ E, sOk w = true) → acc.length + E.length ≤ 2000 → ∃ b',
    loopF (.nm 4) (evS Co.P0 cl fu (.seq (.asg (.nm 6) (.bin .Add (.var 6) (.ife (.and (.cmp .NotIn (.var 4) (.bin .Add (.idx (.var 0) (.int 0)) (.idx (.var 0) (.int 1)))) (.cmp .Lt (.blt .len (.var 6)) (.var 1))) (.lst (.cons (.var 4) .nil)) (.lst .nil)))) .pass)) (kl E) (zF (Tl K T) r every acc a b c d) s
      = .ok (.nx (zF (Tl K T) r every (E.foldl (stepF (K ++ T) r) acc) a b' c d)) s
  | [], acc, b, _, _ => ⟨b, rfl⟩
  | w :: E, acc, b, hE, hl => by
    have hlen : (stepF (K ++ T) r acc w).length ≤ acc.length + 1 := by
      unfold stepF; split <;> simp
    obtain ⟨b', e⟩ := loop_F (cl := cl) (fu := fu) (r := r) (every := every) (a := a) (c := c) (d := d) hS E (stepF (K ++ T) r acc w) (some (.str w)) (fun x hx => hE x (List.mem_cons_of_mem _ hx)) (by rw [List.length_cons] at hl; omega)
    refine ⟨b', ?_⟩
    rw [List.foldl_cons, ← e, kl, List.map_cons, loopF]
    simp only [puts_nm, List.set_cons_succ, List.set_cons_zero]
    have e1 : opD .Add (.lst (kl K)) (.lst (kl T)) = some (.lst (kl (K ++ T))) := add_kl (by rw [List.length_append] at hS; omega)
    have e2 : cmpR Co.P0 cl .NotIn (.str w) (.lst (kl (K ++ T))) s = .ok (.bl (decide (w ∉ K ++ T))) s := by
      rw [cmpR_of rfl]; simp only [cmpD, in_lst]; simp [ofO]
    have e3 : ∀ x : Str, opD .Add (.lst (kl acc)) (.lst (kl [x])) = some (.lst (kl (acc ++ [x]))) := fun x => add_kl (by simp at hl ⊢; unfold LIM; omega)
    have e4 : opD .Add (.lst (kl acc)) (.lst []) = some (.lst (kl acc)) := by
      have := add_kl (a := acc) (b := []) (by simp at hl ⊢; unfold LIM; omega)
      simpa [kl] using this
    have hl1 : (0 + 1 : Nat) ≤ LIM := by decide
    have ecmp : cmpR Co.P0 cl .Lt (.int (acc.length : Nat)) (.int (r : Nat)) s = .ok (.bl (decide (acc.length < r))) s := by
      rw [cmpR_of rfl]; simp [cmpD, ofO]
    have eln : bltD .len (.lst (kl acc)) = some (.int (acc.length : Nat)) := by simp [bltD, kl]
    have body := body_F (cl := cl) (fu := fu) (s := s) (A := kl K) (B := kl T) (X := kl acc) (X1 := kl (acc ++ [w])) (ev := some (.lst (kl every))) (a := a) (l := some (.str LET)) (c := c) (d := d) e1 e2 eln ecmp (e3 w) e4
    have hst : (if (decide (w ∉ K ++ T) && decide (acc.length < r)) = true then kl (acc ++ [w]) else kl acc) = kl (stepF (K ++ T) r acc w) := by
      unfold stepF
      by_cases hw : w ∈ K ++ T <;> by_cases hr : acc.length < r <;> simp [hw, hr]
    rw [hst] at body
    rw [body]
    rfl
theorem str_map {cl : Cl} {own : Str} {i j : Nat} {env : En} {one : Str} (h1 : one.length = 1) (hi : (wipeE env [j])[i]? = some (some (.str one))) (hij : j ≠ i) (hl : j < (wipeE env [j]).length) (hL : ev Co.P0 cl (.var 5) env s = .ok (.str LET) s ∨ True) {it : C} (hit : ev Co.P0 cl it env s = .ok (.str LET) s) :
    ev Co.P0 cl (.comp [(own, j)] (.bin .Add (.var i) (.var j)) (.nm j) it .nop) env s = .ok (.lst (kl (LETc.map fun b => one ++ b))) s := by
  have e := ev_cm (P := Co.P0) (cl := cl) (own := [(own, j)]) (e := .bin .Add (.var i) (.var j)) (i := j) (env := env) (s := s) (x := .str LET) (xs := kl LETc) (g := fun d => match d with | .str b => .str (one ++ b) | d => d) hit it_LET (by rw [kl, List.length_map, LETc_len]; decide) (fun y hy => by
    obtain ⟨b, hb, rfl⟩ := List.mem_map.mp hy
    show ev Co.P0 cl _ ((wipeE env [j]).set j (some (.str b))) s = _
    have g1 : ((wipeE env [j]).set j (some (.str b)))[i]? = some (some (.str one)) := by rw [List.getElem?_set_ne hij]; exact hi
    have g2 : ((wipeE env [j]).set j (some (.str b)))[j]? = some (some (.str b)) := List.getElem?_set_self hl
    have : opD .Add (.str one) (.str b) = some (.str (one ++ b)) := by
      simp only [opD]; rw [h1, LETc_1 b hb]; rfl
    generalize (wipeE env [j]).set j (some (.str b)) = en at g1 g2 ⊢
    simp [ev, g1, g2, this, ofO])
  rw [e]
  simp [kl, Function.comp_def]
theorem items_abc : items (.str "abc") = some (kl ["a", "b", "c"]) ∧ items (.str "zyx") = some (kl ["z", "y", "x"]) := by
  constructor <;> rfl
def growW (acc : List Str) (one : Str) : List Str := acc ++ LETc.map fun b => one ++ b
theorem grow_len (acc : List Str) (one : Str) : (growW acc one).length = acc.length + 26 := by
  unfold growW; rw [List.length_append, List.length_map, LETc_len]
theorem f35_one {cl : Cl} {fu : Nat} {told : D} {r : Nat} {every found : List Str} {one : Str} {b c d : Option D} (h1 : one.length = 1) (hl : every.length ≤ 1000) :
    evS Co.P0 cl fu (.seq (.asg (.nm 2) (.bin .Add (.var 2) (.comp [("other", 8)] (.bin .Add (.var 3) (.var 8)) (.nm 8) (.var 5) .nop))) .pass) (zF told r every found (some (.str one)) b c d) s = .ok (.nx (zF told r (growW every one) found (some (.str one)) b c d)) s := by
  have e1 := str_map (cl := cl) (s := s) (own := "other") (i := 3) (j := 8) (env := (zF told r every found (some (.str one)) b c d).env) (one := one) (it := .var 5) h1 rfl (by decide) (by show 8 < 9; decide) (.inr trivial) (by simp [ev])
  have e2 : opD .Add (.lst (kl every)) (.lst (kl (LETc.map fun b => one ++ b))) = some (.lst (kl (growW every one))) := add_kl (by rw [List.length_map, LETc_len]; unfold LIM; omega)
  generalize (C.comp [(("other" : Str), 8)] (.bin .Add (.var 3) (.var 8)) (.nm 8) (.var 5) .nop) = cc at e1 ⊢
  generalize kl (LETc.map fun b => one ++ b) = X at e1 e2
  simp only [zF] at e1 ⊢
  simp [evS, ev, e1, e2, ofO]
theorem E1_ok : ∀ w ∈ E1, sOk w = true := by decide +kernel
theorem f35_ok {r : Nat} (h : 1 ≤ n) (hS : (K ++ T).length ≤ 1000) : (L n).call 35 [Tl K T, .int r] s = .ok (.tup (kl ((E1.filter fun w => decide (w ∉ K ++ T)).take r))) s := by
  rw [ca35 h]
  unfold runF Co.c35
  have ez : z0 Co.N35 ([Tl K T, D.int r].map some) = ⟨[some (Tl K T), some (.int r), none, none, none, none, none, none, none], [], []⟩ := rfl
  rw [ez]
  rw [evS_seq (z' := ⟨[some (Tl K T), some (.int r), none, none, none, some (.str LET), some (.lst []), none, none], [], []⟩) (s' := s)]
  rotate_left
  · have hl0 : (0 : Nat) ≤ LIM := Nat.zero_le _
    simp [evS, ev, evL, R.lim, Z.store, Z.set]; rfl
  have e2 := ev_cm (P := Co.P0) (cl := L (n - 1)) (own := [("letter", 7)]) (e := .var 7) (it := .var 5) (i := 7) (env := [some (Tl K T), some (.int r), none, none, none, some (.str LET), some (.lst []), none, none]) (s := s) (x := .str LET) (xs := kl LETc) (g := id) (by simp [ev]) it_LET (by rw [kl, List.length_map, LETc_len]; decide) (fun y hy => by
    show ev Co.P0 _ _ [some (Tl K T), some (.int r), none, none, none, some (.str LET), some (.lst []), some y, none] s = _
    simp [ev])
  rw [List.map_id] at e2
  rw [evS_seq (z' := zF (Tl K T) r LETc [] none none none none) (s' := s)]
  rotate_left
  · generalize (C.comp [(("letter" : Str), 7)] (.var 7) (.nm 7) (.var 5) .nop) = cc at e2 ⊢
    simp [evS, e2]
  have g1 : (growW LETc "a").length = 52 := by rw [grow_len, LETc_len]
  have g2 : (growW (growW LETc "a") "b").length = 78 := by rw [grow_len, g1]
  rw [evS_seq (z' := zF (Tl K T) r E1 [] (some (.str "c")) none none none) (s' := s)]
  rotate_left
  · have o1 := f35_one (cl := L (n - 1)) (fu := FU) (s := s) (told := Tl K T) (r := r) (every := LETc) (found := []) (one := "a") (b := none) (c := none) (d := none) rfl (by rw [LETc_len]; decide)
    have o2 := f35_one (cl := L (n - 1)) (fu := FU) (s := s) (told := Tl K T) (r := r) (every := growW LETc "a") (found := []) (one := "b") (b := none) (c := none) (d := none) rfl (by rw [g1]; decide)
    have o3 := f35_one (cl := L (n - 1)) (fu := FU) (s := s) (told := Tl K T) (r := r) (every := growW (growW LETc "a") "b") (found := []) (one := "c") (b := none) (c := none) (d := none) rfl (by rw [g2]; decide)
    have eE : growW (growW (growW LETc "a") "b") "c" = E1 := rfl
    rw [eE] at o3
    generalize (Sx.seq (.asg (.nm 2) (.bin .Add (.var 2) (.comp [("other", 8)] (.bin .Add (.var 3) (.var 8)) (.nm 8) (.var 5) .nop))) .pass) = bd at o1 o2 o3 ⊢
    rw [evS]
    simp only [evI, ev, zF, mask_nil, R.bind_ok, items_abc.1, ofO, keep_nil, kl, List.map_cons, List.map_nil, loopF, puts_nm, List.set_cons_succ, List.set_cons_zero] at o1 o2 o3 ⊢
    simp only [o1, o2, o3, R.bind_ok, loopF, puts_nm, List.set_cons_succ, List.set_cons_zero]
  obtain ⟨b', e3⟩ := loop_F (cl := L (n - 1)) (fu := FU) (s := s) (K := K) (T := T) (r := r) (every := E1) (a := some (.str "c")) (c := none) (d := none) (by unfold LIM; omega) E1 [] none E1_ok (by rw [E1_len]; decide)
  rw [fold_F _ _ _ _ (Nat.zero_le _), List.nil_append, List.length_nil, Nat.sub_zero] at e3
  rw [evS_seq (z' := zF (Tl K T) r E1 ((E1.filter fun w => decide (w ∉ K ++ T)).take r) (some (.str "c")) b' none none) (s' := s)]
  rotate_left
  · rw [evS]
    have hi : evI Co.P0 (L (n - 1)) (.var 2) (mask (zF (Tl K T) r E1 [] (some (.str "c")) none none none) (vars (.var 2))) s = .ok (kl E1) s := by
      simp [evI, ev, zF, items, ofO]
    rw [hi]
    simp only [R.bind_ok, keep_nil]
    exact e3
  simp [evS, ev, ofO, bltD, endF]
theorem nin_app (w : Str) : nin K T w = decide (w ∉ K ++ T) := by
  unfold nin; by_cases h1 : w ∈ K <;> by_cases h2 : w ∈ T <;> simp [h1, h2]
theorem fresh_eq {r : Nat} (hr : r ≤ 40) (h : 40 ≤ (E1.filter fun w => decide (w ∉ K ++ T)).length) : (E7.filter (nin K T)).take r = (E1.filter fun w => decide (w ∉ K ++ T)).take r := by
  have e0 : nin K T = fun w => decide (w ∉ K ++ T) := funext nin_app
  rw [e0]
  have e1 : E7 = E1 ++ E7.drop 104 := by rw [← E7_pre, List.take_append_drop]
  rw [e1, List.filter_append, List.take_append_of_le_length (by omega)]
theorem sub_len : ∀ (S E : List Str), E.Nodup → (∀ w ∈ E, w ∈ S) → E.length ≤ S.length
  | [], [], _, _ => Nat.le_refl _
  | [], a :: E, _, h => absurd (h a List.mem_cons_self) (by simp)
  | a :: S, E, hn, h => by
    have h1 := sub_len S (E.erase a) (hn.erase a) fun w hw => by
      have hw2 := (List.Nodup.mem_erase_iff hn).mp hw
      exact (List.mem_cons.mp (h w hw2.2)).resolve_left hw2.1
    have h2 : E.length ≤ (E.erase a).length + 1 := by
      by_cases ha : a ∈ E
      · rw [List.length_erase_of_mem ha]; omega
      · rw [List.erase_of_not_mem ha]; omega
    rw [List.length_cons]; omega
theorem filter_len {S : List Str} : ∀ {E : List Str}, E.Nodup → E.length ≤ (E.filter fun w => decide (w ∉ S)).length + S.length := by
  intro E hE
  have h1 : (E.filter fun w => decide (w ∈ S)).length ≤ S.length := by
    have nd : (E.filter fun w => decide (w ∈ S)).Nodup := hE.filter _
    exact sub_len S _ nd fun w hw => by simpa using (List.mem_filter.mp hw).2
  have h2 : E.length = (E.filter fun w => decide (w ∈ S)).length + (E.filter fun w => decide (w ∉ S)).length := by
    clear h1 hE
    induction E with
    | nil => rfl
    | cons x E ih =>
      rw [List.filter_cons, List.filter_cons]
      by_cases hx : x ∈ S
      · rw [if_pos (decide_eq_true hx), if_neg (by simp [hx]), List.length_cons, List.length_cons]; omega
      · rw [if_neg (by simp [hx]), if_pos (decide_eq_true hx), List.length_cons, List.length_cons]; omega
  omega
end
end Pl
end Ah

/-! ## K00x -/
set_option Elab.async false
set_option linter.all false
set_option maxRecDepth 100000
set_option maxHeartbeats 4000000
namespace Ah
open PySem PySem.Spec PyProof.Rows L2
namespace Pl
section
variable {n : Nat} {s : Dr} {K T : List Str}
/-! ### events -/
abbrev ev2 (a : Str) (d : D) : D := .tup [.str a, d]
def evA (K : List Str) : List D := (K.map fun k => ev2 "start" (.str k)) ++ [ev2 "end" (.int 0), ev2 "end" (.int 1), ev2 "end" (.int 2), ev2 "end" (.int 3)]
def evs (K T : List Str) : List D := (evA K ++ (T.map fun t => ev2 "take" (.str t))) ++ (T.map fun t => ev2 "give" (.str t))
theorem pair_ev {cl : Cl} {env : En} {own : Str} {i : Nat} {it : C} {d : D} {ws : List Str} {a : Str} (hd : Sq d (kl ws)) (hw : ws.length ≤ LIM) (hit : ev Co.P0 cl it env s = .ok d s) (hl : i < (wipeE env [i]).length) :
    ev Co.P0 cl (.comp [(own, i)] (.tup (.cons (.str a) (.cons (.var i) .nil))) (.nm i) it .nop) env s = .ok (.lst (ws.map fun k => ev2 a (.str k))) s := by
  have hlm : (0 + 1 + 1 : Nat) ≤ LIM := by decide
  have e := ev_cm (P := Co.P0) (cl := cl) (own := [(own, i)]) (e := .tup (.cons (.str a) (.cons (.var i) .nil))) (i := i) (env := env) (s := s) (x := d) (xs := kl ws) (g := fun d => ev2 a d) hit (items_sq hd).1 (by rw [kl, List.length_map]; exact hw) (fun y hy => by
    show ev Co.P0 cl _ ((wipeE env [i]).set i (some y)) s = _
    have g2 : ((wipeE env [i]).set i (some y))[i]? = some (some y) := List.getElem?_set_self hl
    generalize (wipeE env [i]).set i (some y) = en at g2 ⊢
    simp [ev, evL, g2, R.lim, hlm])
  rw [e, kl, List.map_map]; rfl
theorem int_ev {cl : Cl} {env : En} {own : Str} {i : Nat} {it : C} {a : Str} (hit : ev Co.P0 cl it env s = .ok (.lst [.int 0, .int 1, .int 2, .int 3]) s) (hl : i < (wipeE env [i]).length) :
    ev Co.P0 cl (.comp [(own, i)] (.tup (.cons (.str a) (.cons (.var i) .nil))) (.nm i) it .nop) env s = .ok (.lst [ev2 a (.int 0), ev2 a (.int 1), ev2 a (.int 2), ev2 a (.int 3)]) s := by
  have hlm : (0 + 1 + 1 : Nat) ≤ LIM := by decide
  exact ev_cm (P := Co.P0) (cl := cl) (own := [(own, i)]) (e := .tup (.cons (.str a) (.cons (.var i) .nil))) (i := i) (env := env) (s := s) (x := .lst [.int 0, .int 1, .int 2, .int 3]) (xs := [.int 0, .int 1, .int 2, .int 3]) (g := fun d => ev2 a d) hit rfl (by decide) (fun y hy => by
    show ev Co.P0 cl _ ((wipeE env [i]).set i (some y)) s = _
    have g2 : ((wipeE env [i]).set i (some y))[i]? = some (some y) := List.getElem?_set_self hl
    generalize (wipeE env [i]).set i (some y) = en at g2 ⊢
    simp [ev, evL, g2, R.lim, hlm])
theorem add_l {a b : List D} (h : a.length + b.length ≤ LIM) : opD .Add (.lst a) (.lst b) = some (.lst (a ++ b)) := by
  simp only [opD]; rw [if_pos h]
theorem evA_len : (evA K).length = K.length + 4 := by unfold evA; rw [List.length_append, List.length_map]; rfl
theorem evs_len : (evs K T).length = K.length + 4 + T.length + T.length := by unfold evs; rw [List.length_append, List.length_append, List.length_map, List.length_map, evA_len]
theorem rng4 {cl : Cl} (env : En) : ev Co.P0 cl (.rng (.int 0) (.gcon 4)) env s = .ok (.lst [.int 0, .int 1, .int 2, .int 3]) s := rfl
theorem f18_ok (h : 2 ≤ n) (ok : Ok K T) : (L n).call 18 [Y K T] s = .ok (.lst (evs K T)) s := by
  rw [ca18 (by omega)]
  unfold runF Co.c18
  have ez : z0 Co.N18 ([Y K T].map some) = ⟨[some (Y K T), none, none, none, none], [], []⟩ := rfl
  rw [ez]
  have a1 := fun a b => at_k (n := n - 1) (s := s) (a := a) (b := b) (by omega)
  have a2 := fun a b => at_t (n := n - 1) (s := s) (a := a) (b := b) (by omega)
  have lK : K.length ≤ 40 := ok.k2
  have lT : T.length ≤ 2 := ok.t2
  have e1 := pair_ev (cl := L (n - 1)) (s := s) (own := "kind") (i := 2) (env := [some (Y K T), none, none, none, none]) (it := .att (.var 0) "kinds") (d := .tup (kl K)) (ws := K) (a := "start") (.inr rfl) (by unfold LIM; omega) (by simp [ev, a1]) (by show 2 < 5; decide)
  have e2 := int_ev (cl := L (n - 1)) (s := s) (own := "place") (i := 3) (env := [some (Y K T), none, none, none, none]) (it := .rng (.int 0) (.gcon 4)) (a := "end") (rng4 _) (by show 3 < 5; decide)
  have e3 : opD .Add (.lst (K.map fun k => ev2 "start" (.str k))) (.lst [ev2 "end" (.int 0), ev2 "end" (.int 1), ev2 "end" (.int 2), ev2 "end" (.int 3)]) = some (.lst (evA K)) := add_l (by rw [List.length_map]; show K.length + 4 ≤ LIM; unfold LIM; omega)
  have tt := fun (a : Str) => pair_ev (cl := L (n - 1)) (s := s) (own := "tool") (i := 4) (env := [some (Y K T), some (.lst (evA K)), none, none, none]) (it := .att (.var 0) "tools") (d := .tup (kl T)) (ws := T) (a := a) (.inr rfl) (by unfold LIM; omega) (by simp [ev, a2]) (by show 4 < 5; decide)
  have e4 := tt "take"
  have e5 := tt "give"
  have e6 : opD .Add (.lst (evA K)) (.lst (T.map fun t => ev2 "take" (.str t))) = some (.lst (evA K ++ T.map fun t => ev2 "take" (.str t))) := add_l (by rw [evA_len, List.length_map]; unfold LIM; omega)
  have e7 : opD .Add (.lst (evA K ++ T.map fun t => ev2 "take" (.str t))) (.lst (T.map fun t => ev2 "give" (.str t))) = some (.lst (evs K T)) := add_l (by rw [List.length_append, evA_len, List.length_map, List.length_map]; unfold LIM; omega)
  generalize (C.comp [(("kind" : Str), 2)] _ (.nm 2) _ .nop) = c1 at e1 ⊢
  generalize (C.comp [(("place" : Str), 3)] _ (.nm 3) _ .nop) = c2 at e2 ⊢
  generalize (C.comp [(("tool" : Str), 4)] (.tup (.cons (.str "take") _)) (.nm 4) _ .nop) = c3 at e4 ⊢
  generalize (C.comp [(("tool" : Str), 4)] (.tup (.cons (.str "give") _)) (.nm 4) _ .nop) = c4 at e5 ⊢
  generalize (K.map fun k => ev2 "start" (.str k)) = x1 at e1 e3
  generalize (T.map fun k => ev2 "take" (.str k)) = x2 at e4 e6 e7
  generalize (T.map fun k => ev2 "give" (.str k)) = x3 at e5 e7
  simp [evS, ev, e1, e2, e3, e4, e5, e6, e7, ofO, endF]
theorem f20_ok (h : 3 ≤ n) (ok : Ok K T) : (L n).call 20 [Y K T] s = .ok (.tup (evs K T)) s := by
  rw [ca20 (by omega)]
  have e9 := f9_ok (n := n - 1) (K := K) (T := T) (s := s) (by omega)
  have e1 := f18_ok (n := n - 1) (s := s) (by omega) ok
  simp [runF, Co.c20, z0, Co.N20, evS, ev, evL, e9, e1, bltD, ofO, endF]
theorem f20_6 {d : D} (h : 2 ≤ n) (hd : d = .non ∨ ∃ l, d = .tup l) : (L n).call 20 [d] s = .exc 6 [] s := by
  rw [ca20 (by omega)]
  have e9 := f9_no (n := n - 1) (s := s) (by omega) hd
  simp [runF, Co.c20, z0, Co.N20, evS, ev, evL, e9, endF]
theorem f32_ok (h : 1 ≤ n) (ok : Ok K T) : (L n).call 32 [Tl K T] s = .ok (.lst (evs K T)) s := by
  rw [ca32 (by omega)]
  unfold runF Co.c32
  have ez : z0 Co.N32 ([Tl K T].map some) = ⟨[some (Tl K T), none, none, none, none], [], []⟩ := rfl
  rw [ez]
  have lK : K.length ≤ 40 := ok.k2
  have lT : T.length ≤ 2 := ok.t2
  have e1 := pair_ev (cl := L (n - 1)) (s := s) (own := "kind") (i := 2) (env := [some (Tl K T), none, none, none, none]) (it := .idx (.var 0) (.int 0)) (d := .lst (kl K)) (ws := K) (a := "start") (.inl rfl) (by unfold LIM; omega) (by simp [ev, tl0, ofO]) (by show 2 < 5; decide)
  have e2 := int_ev (cl := L (n - 1)) (s := s) (own := "place") (i := 3) (env := [some (Tl K T), none, none, none, none]) (it := .lst (.cons (.int 0) (.cons (.int 1) (.cons (.int 2) (.cons (.int 3) .nil))))) (a := "end") (by
    have hlm : (0 + 1 + 1 + 1 + 1 : Nat) ≤ LIM := by decide
    simp [ev, evL, R.lim, hlm]) (by show 3 < 5; decide)
  have e3 : opD .Add (.lst (K.map fun k => ev2 "start" (.str k))) (.lst [ev2 "end" (.int 0), ev2 "end" (.int 1), ev2 "end" (.int 2), ev2 "end" (.int 3)]) = some (.lst (evA K)) := add_l (by rw [List.length_map]; show K.length + 4 ≤ LIM; unfold LIM; omega)
  have tt := fun (a : Str) => pair_ev (cl := L (n - 1)) (s := s) (own := "tool") (i := 4) (env := [some (Tl K T), some (.lst (evA K)), none, none, none]) (it := .idx (.var 0) (.int 1)) (d := .lst (kl T)) (ws := T) (a := a) (.inl rfl) (by unfold LIM; omega) (by simp [ev, tl1, ofO]) (by show 4 < 5; decide)
  have e4 := tt "take"
  have e5 := tt "give"
  have e6 : opD .Add (.lst (evA K)) (.lst (T.map fun t => ev2 "take" (.str t))) = some (.lst (evA K ++ T.map fun t => ev2 "take" (.str t))) := add_l (by rw [evA_len, List.length_map]; unfold LIM; omega)
  have e7 : opD .Add (.lst (evA K ++ T.map fun t => ev2 "take" (.str t))) (.lst (T.map fun t => ev2 "give" (.str t))) = some (.lst (evs K T)) := add_l (by rw [List.length_append, evA_len, List.length_map, List.length_map]; unfold LIM; omega)
  generalize (C.comp [(("kind" : Str), 2)] _ (.nm 2) _ .nop) = c1 at e1 ⊢
  generalize (C.comp [(("place" : Str), 3)] _ (.nm 3) _ .nop) = c2 at e2 ⊢
  generalize (C.comp [(("tool" : Str), 4)] (.tup (.cons (.str "take") _)) (.nm 4) _ .nop) = c3 at e4 ⊢
  generalize (C.comp [(("tool" : Str), 4)] (.tup (.cons (.str "give") _)) (.nm 4) _ .nop) = c4 at e5 ⊢
  generalize (K.map fun k => ev2 "start" (.str k)) = x1 at e1 e3
  generalize (T.map fun k => ev2 "take" (.str k)) = x2 at e4 e6 e7
  generalize (T.map fun k => ev2 "give" (.str k)) = x3 at e5 e7
  simp [evS, ev, e1, e2, e3, e4, e5, e6, e7, ofO, endF]
/-! ### is_event -/
theorem f19_nt {d : D} (h : 1 ≤ n) (hd : d = .non ∨ (∃ i, d = .int i) ∨ (∃ w, d = .str w) ∨ (∃ l, d = .lst l)) {y : D} : (L n).call 19 [y, d] s = .ok (.bl false) s := by
  rcases hd with rfl | ⟨i, rfl⟩ | ⟨w, rfl⟩ | ⟨l, rfl⟩ <;> rw [ca19 h] <;> simp [runF, Co.c19, z0, Co.N19, evS, evB, ev, D.ty, isiL, ofO, D.truth, endF]
theorem ne_int {cl : Cl} {i j : Int} : cmpR Co.P0 cl .NotEq (.int i) (.int j) s = .ok (.bl (!(i == j))) s := by
  rw [cmpR_of rfl]; simp [cmpD, pyEq, D.pyS, D.toPy, PyData.depth, PyData.eqv, ofO]
theorem f19_len {l : List D} (h : 1 ≤ n) (hl : l.length ≠ 2) {y : D} : (L n).call 19 [y, .tup l] s = .ok (.bl false) s := by
  rw [ca19 h]
  have : ((l.length : Int) == 2) = false := by simp; omega
  simp [runF, Co.c19, z0, Co.N19, evS, evB, ev, D.ty, isiL, ofO, D.truth, bltD, ne_int, this, endF]
theorem f19_ns {a b : D} (h : 1 ≤ n) (ha : ∃ i, a = .int i) {y : D} : (L n).call 19 [y, .tup [a, b]] s = .ok (.bl false) s := by
  obtain ⟨i, rfl⟩ := ha
  rw [ca19 h]
  simp [runF, Co.c19, z0, Co.N19, evS, evB, ev, D.ty, isiL, ofO, D.truth, bltD, ne_int, tl0, tl1, endF]
theorem in_tg {cl : Cl} (a : Str) : sOk a = true → cmpR Co.P0 cl .In (.str a) (.tup [.str "take", .str "give"]) s = .ok (.bl (decide (a = "take") || decide (a = "give"))) s := fun ha => by
  rw [cmpR_of rfl]
  have := in_tup (w := a) (ws := ["take", "give"]) ha (by decide +kernel)
  have this : pyIn (.str a) (.tup [.str "take", .str "give"]) = _ := this
  simp only [cmpD, this]
  simp [ofO]
theorem f19_ok {a : Str} {b : D} (ha : sOk a = true) (h : 3 ≤ n) {c1 c2 c3 : Bool} {y : D} (e1 : ∀ s, (L (n - 1)).call 1 [b, .int 0, .int 3] s = .ok (.bl c1) s) (e2 : ∀ s, (L (n - 1)).call 10 [y, b] s = .ok (.bl c2) s) (e3 : ∀ s, (L (n - 1)).call 11 [y, b] s = .ok (.bl c3) s) :
    (L n).call 19 [y, .tup [.str a, b]] s = .ok (.bl (if a = "end" then c1 else if a = "start" then c2 else if a = "take" ∨ a = "give" then c3 else false)) s := by
  rw [ca19 (by omega)]
  have i1 : opD .Sub (.int 4) (.int 1) = some (.int 3) := rfl
  have hlm : (0 + 1 + 1 : Nat) ≤ LIM := by decide
  unfold runF Co.c19
  have ez : z0 Co.N19 ([y, D.tup [.str a, b]].map some) = ⟨[some y, some (.tup [.str a, b])], [], []⟩ := rfl
  rw [ez]
  by_cases h1 : a = "end"
  · subst h1
    simp [evS, evB, ev, evL, D.ty, isiL, ofO, D.truth, bltD, ne_int, tl0, tl1, eq_str, i1, e1, endF]
  · by_cases h2 : a = "start"
    · subst h2
      have h1' : ¬ (("start" : Str) = "end") := by decide +kernel
      simp [evS, evB, ev, evL, D.ty, isiL, ofO, D.truth, bltD, ne_int, tl0, tl1, eq_str, h1', e2, endF]
    · by_cases h3 : a = "take" ∨ a = "give"
      · have h3' : (decide (a = "take") || decide (a = "give")) = true := by simpa using h3
        have e4 := in_tg (cl := L (n - 1)) (s := s) a ha
        rw [h3'] at e4
        simp [evS, evB, ev, evL, D.ty, isiL, ofO, D.truth, bltD, ne_int, tl0, tl1, eq_str, h1, h2, h3, e3, e4, R.lim, hlm, endF]
      · have h3' : (decide (a = "take") || decide (a = "give")) = false := by simpa using h3
        have e4 := in_tg (cl := L (n - 1)) (s := s) a ha
        rw [h3'] at e4
        simp [evS, evB, ev, evL, D.ty, isiL, ofO, D.truth, bltD, ne_int, tl0, tl1, eq_str, h1, h2, h3, e4, R.lim, hlm, endF]
theorem f21_ok {d : D} {b : Bool} (h : 2 ≤ n) (e : ∀ s, (L (n - 1)).call 19 [Y K T, d] s = .ok (.bl b) s) : (L n).call 21 [Y K T, d] s = .ok (.bl b) s := by
  rw [ca21 (by omega)]
  have e9 := f9_ok (n := n - 1) (K := K) (T := T) (s := s) (by omega)
  simp [runF, Co.c21, z0, Co.N21, evS, ev, evL, e9, e, endF]
theorem f21_6 {d y : D} (h : 2 ≤ n) (hd : y = .non ∨ ∃ l, y = .tup l) : (L n).call 21 [y, d] s = .exc 6 [] s := by
  rw [ca21 (by omega)]
  have e9 := f9_no (n := n - 1) (s := s) (by omega) hd
  simp [runF, Co.c21, z0, Co.N21, evS, ev, evL, e9, endF]
theorem f31_ok {d : D} (h : 4 ≤ n) (e : ∀ s, (L (n - 1)).make 0 [.lst (kl K), .lst (kl T)] s = .ok d s) : (L n).call 31 [Tl K T] s = .ok d s := by
  rw [ca31 (by omega)]
  simp [runF, Co.c31, z0, Co.N31, evS, ev, evL, tl0, tl1, ofO, e, endF]
end
end Pl
end Ah

/-! ## K00y -/
set_option Elab.async false
set_option linter.all false
set_option maxRecDepth 100000
set_option maxHeartbeats 4000000
namespace Ah
open PySem PySem.Spec PyProof.Rows L2
namespace Pl
def W13 : List Str := ["cut", "sew", "saw", "glue", "a", "b", "zz", "do", "end", "then", "start", "abcdefgh", "x"]
theorem W13_nd : W13.Nodup := by decide +kernel
theorem W13_pw : ∀ w ∈ W13, plainW w = true := by decide +kernel
theorem W13_ok : ∀ w ∈ W13, sOk w = true := by decide +kernel
structure Told (K T : List Str) : Prop where
  ok : Ok K T
  mem : ∀ w ∈ K ++ T, w ∈ W13
  k4 : K.length ≤ 4
theorem told_of {ws : List Str} (h : ws.Perm W13) {m k : Nat} (h1 : 1 ≤ m) (h2 : m ≤ 4) (h3 : k ≤ 2) : Told (ws.take m) ((ws.drop m).take k) := by
  have hl : ws.length = 13 := h.length_eq
  have nd : ws.Nodup := h.nodup_iff.mpr W13_nd
  have e : ws.take m ++ (ws.drop m).take k = ws.take (m + k) := by rw [List.take_add]
  have nd2 : (ws.take m ++ (ws.drop m).take k).Nodup := by rw [e]; exact nd.sublist (List.take_sublist _ _)
  have mem : ∀ w ∈ ws.take m ++ (ws.drop m).take k, w ∈ W13 := fun w hw => by rw [e] at hw; exact h.mem_iff.mp (List.mem_of_mem_take hw)
  have nd3 := List.nodup_append.mp nd2
  have m1 : ∀ w ∈ ws.take m, w ∈ W13 := fun w hw => mem w (List.mem_append_left _ hw)
  have m2 : ∀ w ∈ (ws.drop m).take k, w ∈ W13 := fun w hw => mem w (List.mem_append_right _ hw)
  refine ⟨⟨by rw [List.length_take]; omega, by rw [List.length_take]; omega, by rw [List.length_take]; omega, fun w hw => W13_pw w (m1 w hw), fun w hw => W13_pw w (m2 w hw), fun w hw => W13_ok w (m1 w hw), fun w hw => W13_ok w (m2 w hw), nd3.1, nd3.2.1, fun w hw hk => nd3.2.2 w hk w hw rfl⟩, mem, by rw [List.length_take]; omega⟩
section
variable {n : Nat} {s : Dr} {K T : List Str}
theorem t23 (h : 1 ≤ n) (s : Dr) : ∃ i s', (L n).call 23 [.drw] s = .ok (.int i) s' := by rw [ca23 h]; exact mixed_ok s
theorem t24 (h : 2 ≤ n) : TakeOk (L n) 24 := fun a s h1 h2 => by
  rw [ca24 (by omega)]
  exact take_ok (f := 23) (fun s => t23 (by omega) s) a s h1 h2
theorem p25 (h : 3 ≤ n) {xs : List D} (h0 : xs ≠ []) (h1 : xs.length < 1073741824) (s : Dr) : ∃ d ∈ xs, ∃ s', (L n).call 25 [.drw, .lst xs] s = .ok d s' := by
  rw [ca25 (by omega)]
  exact pick_ok (f := 24) (t24 (by omega)) h0 h1 s
theorem s26 (h : 3 ≤ n) {xs : List D} (hx : ∀ d ∈ xs, PyG d 10) (h1 : xs.length < 100) (s : Dr) : ∃ ys s', ys.Perm xs ∧ (L n).call 26 [.drw, .lst xs] s = .ok (.lst ys) s' := by
  rw [ca26 (by omega)]
  exact shuf_ok (f := 24) (k := 10) (t24 (by omega)) (by decide) hx (by unfold FU; omega) (by unfold LIM; omega) s
theorem isiOk : IsiOk Co.P0 := by
  intro t ht c hc
  simp only [List.mem_cons, List.not_mem_nil, or_false] at ht hc
  rcases ht with rfl | rfl | rfl | rfl | rfl | rfl <;> rcases hc with rfl | rfl | rfl | rfl | rfl | rfl <;> simp
theorem says (h : 2 ≤ n) {d : D} {k : Nat} (hd : PyG d k) (hk : k ≤ 50) (hn : d.nds < 300) (s : Dr) : (L n).call 29 [d, d] s = .ok (.bl true) s := by
  rw [ca29 (by omega)]
  refine says_ok (f := 28) hd (by omega) ?_ s
  obtain ⟨ks, h1, h2⟩ := kinds_ok (P := Co.P0) (cl := L (n - 1 - 1)) (fu := FU) isiOk hd (by omega) hn (by unfold LIM; omega)
  exact ⟨ks, h1, fun s => by rw [ca28 (by omega)]; exact h2 s⟩
theorem perm_kl {ys : List D} {ws : List Str} (h : ys.Perm (kl ws)) : ∃ vs : List Str, ys = kl vs ∧ vs.Perm ws := by
  refine ⟨ys.filterMap isStr, ?_, ?_⟩
  · have : ∀ y ∈ ys, ∃ w, y = .str w := fun y hy => by
      obtain ⟨w, _, e⟩ := List.mem_map.mp (h.mem_iff.mp hy); exact ⟨w, e.symm⟩
    clear h
    induction ys with
    | nil => rfl
    | cons y ys ih =>
      obtain ⟨w, rfl⟩ := this y List.mem_cons_self
      have := ih fun y hy => this y (List.mem_cons_of_mem _ hy)
      rw [List.filterMap_cons]
      simp only [isStr, kl, List.map_cons] at *
      rw [← this]
  · have := h.filterMap isStr
    rw [fm_kl] at this
    exact this
theorem drop_kl (a : List Str) (r : Nat) : (kl a).drop r = kl (a.drop r) := (List.map_drop ..).symm
theorem cut_mid {α : Type} (xs : List α) (m k : Nat) (h : m + k ≤ xs.length) : cutD xs (some (m : Int)) (some ((m : Int) + (k : Int))) = (xs.drop m).take k := by
  unfold cutD
  have e : ((m : Int) + (k : Int)) = ((m + k : Nat) : Int) := by omega
  have a : min m xs.length = m := Nat.min_eq_left (by omega)
  have b : min (m + k) xs.length = m + k := Nat.min_eq_left h
  rw [e, HT.sIx_nat, HT.sIx_nat, a, b, Nat.add_sub_cancel_left]
theorem f30_ok (h : 4 ≤ n) (s : Dr) : ∃ K T s', Told K T ∧ (L n).call 30 [.drw, .int 4] s = .ok (Tl K T) s' := by
  obtain ⟨ys, s1, p1, e1⟩ := s26 (n := n - 1) (xs := kl W13) (by omega) (PyG.strs W13_ok) (by decide +kernel) s
  obtain ⟨ws, rfl, pw⟩ := perm_kl p1
  obtain ⟨r, s2, e2, r0, r1⟩ := t24 (n := n - 1) (by omega) 4 s1 (by decide) (by decide)
  obtain ⟨d, hd, s3, e3⟩ := p25 (n := n - 1) (xs := [.int 0, .int 0, .int 1, .int 1, .int 2]) (by omega) (by simp) (by decide) s2
  obtain ⟨k, hk, rfl⟩ : ∃ k : Nat, k ≤ 2 ∧ d = .int k := by
    simp only [List.mem_cons, List.not_mem_nil, or_false] at hd
    rcases hd with rfl | rfl | rfl | rfl | rfl
    · exact ⟨0, by decide, rfl⟩
    · exact ⟨0, by decide, rfl⟩
    · exact ⟨1, by decide, rfl⟩
    · exact ⟨1, by decide, rfl⟩
    · exact ⟨2, by decide, rfl⟩
  obtain ⟨m, hm1, hm2, em⟩ : ∃ m : Nat, 1 ≤ m ∧ m ≤ 4 ∧ 1 + r = (m : Int) := ⟨(1 + r).toNat, by omega, by omega, by omega⟩
  refine ⟨ws.take m, (ws.drop m).take k, s3, told_of pw hm1 hm2 hk, ?_⟩
  have hl : ws.length = 13 := pw.length_eq
  rw [ca30 (by omega)]
  unfold runF Co.c30
  have ez : z0 Co.N30 ([D.drw, D.int 4].map some) = ⟨[some .drw, some (.int 4), none, none], [], []⟩ := rfl
  rw [ez]
  have hl13 : (0 + 1 + 1 + 1 + 1 + 1 + 1 + 1 + 1 + 1 + 1 + 1 + 1 + 1 : Nat) ≤ LIM := by decide
  have c0 : ev Co.P0 (L (n - 1)) (.lst (.cons (.str "cut") (.cons (.str "sew") (.cons (.str "saw") (.cons (.str "glue") (.cons (.str "a") (.cons (.str "b") (.cons (.str "zz") (.cons (.str "do") (.cons (.str "end") (.cons (.str "then") (.cons (.str "start") (.cons (.str "abcdefgh") (.cons (.str "x") .nil)))))))))))))) [some .drw, some (.int 4), none, none] s = .ok (.lst (kl W13)) s := rfl
  have c1 : ev Co.P0 (L (n - 1)) (.lst (.cons (.int 0) (.cons (.int 0) (.cons (.int 1) (.cons (.int 1) (.cons (.int 2) .nil)))))) [some .drw, some (.int 4), some (.lst (kl ws)), some (.int m)] s2 = .ok (.lst [.int 0, .int 0, .int 1, .int 1, .int 2]) s2 := rfl
  generalize (C.lst (.cons (.str "cut") _)) = cc at c0 ⊢
  generalize (C.lst (.cons (.int 0) _)) = cd at c1 ⊢
  have a1 : opD .Add (.int 1) (.int r) = some (.int m) := by rw [op_add, em]
  have a2 : opD .Add (.int m) (.int k) = some (.int ((m : Int) + k)) := op_add
  have s1' : sliD (.lst (kl ws)) none (some (m : Int)) = some (.lst (kl (ws.take m))) := by simp only [sliD, cut_take, take_kl]
  have s2' : sliD (.lst (kl ws)) (some (m : Int)) (some ((m : Int) + k)) = some (.lst (kl ((ws.drop m).take k))) := by
    simp only [sliD]; rw [cut_mid _ _ _ (by rw [kl, List.length_map]; omega), drop_kl, take_kl]
  have hlm : (0 + 1 + 1 : Nat) ≤ LIM := by decide
  show _ = R.ok (D.tup [D.lst (kl (ws.take m)), D.lst (kl ((ws.drop m).take k))]) s3
  generalize kl ws = X at c1 e1 s1' s2'
  generalize kl (ws.take m) = X1 at s1'
  generalize kl ((ws.drop m).take k) = X2 at s2'
  simp [evS, ev, evL, c0, e1, e2, e3, c1, a1, a2, s1', s2', isNop, ofO, R.lim, hlm, endF]
/-! ### the law's own words -/
theorem f34_no {d : D} (h : 1 ≤ n) (hd : NoStr d) : (L n).call 34 [d] s = .ok (.bl false) s := by
  rcases hd with rfl | ⟨i, rfl⟩ | ⟨b, rfl⟩ | ⟨l, rfl⟩ | ⟨l, rfl⟩ <;> rw [ca34 h] <;> simp [runF, Co.c34, z0, Co.N34, evS, ev, D.ty, isiL, ofO, D.truth, endF]
theorem eq_nil (xs : List Str) : cmpR Co.P0 (L n) .Eq (.lst (kl xs)) (.lst []) s = .ok (.bl xs.isEmpty) s := by
  have hi : isIns (.lst (kl xs)) = false := by
    unfold isIns
    split
    · rename_i e; cases e
    · rename_i e
      cases xs with
      | nil => cases e
      | cons x xs => injection e with e; injection e with e; cases e
    · rfl
  rw [cmpR_of hi]
  have e0 : (D.lst []).pyS = some (.list []) := rfl
  simp only [cmpD, pyEq, pys_kl, e0]
  cases xs <;> rfl
theorem f34_str {w : Str} (h : 1 ≤ n) : (L n).call 34 [.str w] s = .ok (.bl (plainW w)) s := by
  rw [ca34 h]
  unfold runF Co.c34
  have ez : z0 Co.N34 ([D.str w].map some) = ⟨[some (.str w), none], [], []⟩ := rfl
  rw [ez]
  unfold plainW
  by_cases h1 : 1 ≤ (w.length : Int)
  · have h1' : (0 : Int) < w.length := by omega
    have hN : 0 < w.length := by omega
    by_cases h2 : (w.length : Int) ≤ 8
    · have h2' : (w.length : Int) < 9 := by omega
      have e := ev_cf (P := Co.P0) (cl := L (n - 1)) (own := [("sign", 1)]) (e := .var 1) (it := .var 0) (c := .cmp .NotIn (.var 1) (.str LET)) (i := 1) (env := [some (.str w), none]) (s := s) (x := .str w) (xs := w.cps.toList.map fun c => .str ⟨#[c]⟩) (g := id) (p := fun d => match d with | .str c => !strIn c LET | _ => false) rfl (by simp [ev]) rfl (by rw [List.length_map]; exact len_lim h2) (fun y hy => by
          obtain ⟨c, _, rfl⟩ := List.mem_map.mp hy
          refine ⟨.bl (!strIn ⟨#[c]⟩ LET), ?_, rfl⟩
          show ev Co.P0 _ _ [some (.str w), some (.str ⟨#[c]⟩)] s = _
          simp [ev, cmpR, cmpD, pyIn, ofO]) (fun y hy _ => by
          show ev Co.P0 _ _ [some (.str w), some y] s = _
          simp [ev])
      have e2 : (((w.cps.toList.map fun c => D.str ⟨#[c]⟩).filter (fun d => match d with | .str c => !strIn c LET | _ => false)).map id) = kl ((w.cps.toList.filter fun c => !strIn ⟨#[c]⟩ LET).map fun c => (⟨#[c]⟩ : Str)) := by
        rw [List.map_id, List.filter_map, kl, List.map_map]; rfl
      rw [e2] at e
      have e3 := eq_nil (n := n - 1) (s := s) ((w.cps.toList.filter fun c => !strIn ⟨#[c]⟩ LET).map fun c => (⟨#[c]⟩ : Str))
      have e4 : ((w.cps.toList.filter fun c => !strIn ⟨#[c]⟩ LET).map fun c => (⟨#[c]⟩ : Str)).isEmpty = w.cps.toList.all fun c => strIn ⟨#[c]⟩ LET := by
        generalize w.cps.toList = l
        induction l with
        | nil => rfl
        | cons c l ih =>
          rw [List.filter_cons, List.all_cons]
          cases strIn ⟨#[c]⟩ LET <;> simp_all
      rw [e4] at e3
      have eL : ("abcdefghijklmnopqrstuvwxyz" : Str) = LET := rfl
      rw [eL]
      generalize (C.comp [(("sign" : Str), 1)] (.var 1) (.nm 1) (.var 0) (.cmp .NotIn (.var 1) (.str LET))) = cc at e ⊢
      generalize kl _ = X at e e3
      generalize (w.cps.toList.all fun c => strIn ⟨#[c]⟩ LET) = B at e3 ⊢
      simp [evS, ev, evL, D.ty, isiL, ofO, D.truth, bltD, cmpD, hN, h2', e, e3, R.lim, endF, h1, h2]
    · have h2' : ¬ (w.length : Int) < 9 := by omega
      simp [evS, ev, D.ty, isiL, ofO, D.truth, bltD, cmpD, hN, h2', h1, h2, endF]
  · have hN : ¬ 0 < w.length := by omega
    simp [evS, ev, D.ty, isiL, ofO, D.truth, bltD, cmpD, hN, h1, endF]
def W45 : List Str := (growW (growW (growW [] "z") "y") "x").take 45
theorem f33_one {cl : Cl} {fu : Nat} {m : D} {found : List Str} {one : Str} {d : Option D} (h1 : one.length = 1) (hl : found.length ≤ 1000) :
    evS Co.P0 cl fu (.seq (.asg (.nm 3) (.bin .Add (.var 3) (.comp [("other", 4)] (.bin .Add (.var 1) (.var 4)) (.nm 4) (.var 2) .nop))) .pass) ⟨[some m, some (.str one), some (.str LET), some (.lst (kl found)), d], [], []⟩ s = .ok (.nx ⟨[some m, some (.str one), some (.str LET), some (.lst (kl (growW found one))), d], [], []⟩) s := by
  have e1 := str_map (cl := cl) (s := s) (own := "other") (i := 1) (j := 4) (env := [some m, some (.str one), some (.str LET), some (.lst (kl found)), d]) (one := one) (it := .var 2) h1 rfl (by decide) (by show 4 < 5; decide) (.inr trivial) (by simp [ev])
  have e2 : opD .Add (.lst (kl found)) (.lst (kl (LETc.map fun b => one ++ b))) = some (.lst (kl (growW found one))) := add_kl (by rw [List.length_map, LETc_len]; unfold LIM; omega)
  generalize (C.comp [(("other" : Str), 4)] (.bin .Add (.var 1) (.var 4)) (.nm 4) (.var 2) .nop) = cc at e1 ⊢
  generalize kl (LETc.map fun b => one ++ b) = X at e1 e2
  simp [evS, ev, e1, e2, ofO]
theorem f33_ok (h : 1 ≤ n) : (L n).call 33 [.int 45] s = .ok (.lst (kl W45)) s := by
  rw [ca33 h]
  unfold runF Co.c33
  have ez : z0 Co.N33 ([D.int 45].map some) = ⟨[some (.int 45), none, none, none, none], [], []⟩ := rfl
  rw [ez]
  rw [evS_seq (z' := ⟨[some (.int 45), none, some (.str LET), some (.lst []), none], [], []⟩) (s' := s)]
  rotate_left
  · simp [evS, ev, evL, R.lim, Z.store, Z.set]; rfl
  have g1 : (growW [] "z").length = 26 := by rw [grow_len]; rfl
  have g2 : (growW (growW [] "z") "y").length = 52 := by rw [grow_len, g1]
  rw [evS_seq (z' := ⟨[some (.int 45), some (.str "x"), some (.str LET), some (.lst (kl (growW (growW (growW [] "z") "y") "x"))), none], [], []⟩) (s' := s)]
  rotate_left
  · have o1 := f33_one (cl := L (n - 1)) (fu := FU) (s := s) (m := .int 45) (found := []) (one := "z") (d := none) rfl (by decide)
    have o2 := f33_one (cl := L (n - 1)) (fu := FU) (s := s) (m := .int 45) (found := growW [] "z") (one := "y") (d := none) rfl (by rw [g1]; decide)
    have o3 := f33_one (cl := L (n - 1)) (fu := FU) (s := s) (m := .int 45) (found := growW (growW [] "z") "y") (one := "x") (d := none) rfl (by rw [g2]; decide)
    generalize (Sx.seq (.asg (.nm 3) (.bin .Add (.var 3) (.comp [("other", 4)] (.bin .Add (.var 1) (.var 4)) (.nm 4) (.var 2) .nop))) .pass) = bd at o1 o2 o3 ⊢
    rw [evS]
    simp only [evI, ev, mask_nil, R.bind_ok, items_abc.2, ofO, keep_nil, kl, List.map_cons, List.map_nil, loopF, puts_nm, List.set_cons_succ, List.set_cons_zero] at o1 o2 o3 ⊢
    simp only [o1, o2, o3, R.bind_ok, loopF, puts_nm, List.set_cons_succ, List.set_cons_zero]
  have s1' : sliD (.lst (kl (growW (growW (growW [] "z") "y") "x"))) none (some ((45 : Nat) : Int)) = some (.lst (kl W45)) := by simp only [sliD, cut_take, take_kl]; rfl
  have s1' : sliD (.lst (kl (growW (growW (growW [] "z") "y") "x"))) none (some 45) = some (.lst (kl W45)) := s1'
  generalize kl (growW (growW (growW [] "z") "y") "x") = X at s1' ⊢
  simp [evS, ev, isNop, s1', ofO, endF]
end
end Pl
end Ah

/-! ## K00z -/
set_option Elab.async false
set_option linter.all false
set_option maxRecDepth 100000
set_option maxHeartbeats 4000000
namespace Ah
open PySem PySem.Spec PyProof.Rows L2
namespace Pl
/-! ### what is shown -/
def shw (d : D) : Str := match d.pyS with | some p => p.shown | none => Str.empty
def repB (d : D) : Bool := match d.pyS with | some p => p.showable && !p.hasDict && sOk p.shown | none => false
theorem rep_ok {d : D} (h : repB d = true) : bltD .repr d = some (.str (shw d)) := by
  unfold repB at h
  split at h
  · rename_i p hp
    simp only [Bool.and_eq_true, Bool.not_eq_true'] at h
    simp only [bltD, hp, shw]
    exact if_pos ⟨h.1.1, h.1.2, h.2⟩
  · cases h
def odds (w : Str) : List D := [.lst [.str "start", .str w], .tup [.str "start", .str w, .int 1], .tup [.int 0, .str w], ev2 "begin" (.str w)]
def fixd : List D := [.non, .int 5, .str "start", .tup [], .tup [.str "start"], ev2 "start" (.str "late"), ev2 "end" (.int 4), ev2 "end" (.int (-1)), ev2 "end" (.bl true), ev2 "end" (.str "0"), ev2 "give" .non]
def U : List D := fixd ++ evs W13 W13 ++ W13.flatMap odds
theorem U_rep : U.all repB = true := by decide +kernel
theorem U_nd : (U.map shw).Nodup := by decide +kernel
theorem inj_of {α β : Type} {f : α → β} : ∀ {l : List α}, (l.map f).Nodup → ∀ {a b : α}, a ∈ l → b ∈ l → f a = f b → a = b
  | [], _, _, _, h, _, _ => by cases h
  | x :: l, hn, a, b, ha, hb, e => by
    rw [List.map_cons, List.nodup_cons] at hn
    rcases List.mem_cons.mp ha with rfl | ha' <;> rcases List.mem_cons.mp hb with rfl | hb'
    · rfl
    · exact (hn.1 (List.mem_map.mpr ⟨b, hb', e.symm⟩)).elim
    · exact (hn.1 (List.mem_map.mpr ⟨a, ha', e⟩)).elim
    · exact inj_of hn.2 ha' hb' e
theorem U_of {d : D} (h : d ∈ U) : bltD .repr d = some (.str (shw d)) := rep_ok (List.all_eq_true.mp U_rep d h)
theorem mem_evs {K T : List Str} {d : D} : d ∈ evs K T ↔ (∃ k ∈ K, ev2 "start" (.str k) = d) ∨ (d = ev2 "end" (.int 0) ∨ d = ev2 "end" (.int 1) ∨ d = ev2 "end" (.int 2) ∨ d = ev2 "end" (.int 3)) ∨ (∃ t ∈ T, ev2 "take" (.str t) = d) ∨ (∃ t ∈ T, ev2 "give" (.str t) = d) := by
  simp only [evs, evA, List.mem_append, List.mem_map, List.mem_cons, List.not_mem_nil, or_false, or_assoc]
theorem n1 : ("start" : Str) ≠ "end" := by decide +kernel
theorem n2 : ("take" : Str) ≠ "end" := by decide +kernel
theorem n3 : ("take" : Str) ≠ "start" := by decide +kernel
theorem n4 : ("give" : Str) ≠ "end" := by decide +kernel
theorem n5 : ("give" : Str) ≠ "start" := by decide +kernel
theorem n6 : ("give" : Str) ≠ "take" := by decide +kernel
theorem n7 : ("begin" : Str) ≠ "end" := by decide +kernel
theorem n8 : ("begin" : Str) ≠ "start" := by decide +kernel
theorem n9 : ("begin" : Str) ≠ "take" := by decide +kernel
theorem n10 : ("begin" : Str) ≠ "give" := by decide +kernel
theorem late_no : ("late" : Str) ∉ W13 := by decide +kernel
theorem s_ok : sOk "start" = true ∧ sOk "end" = true ∧ sOk "take" = true ∧ sOk "give" = true ∧ sOk "begin" = true ∧ sOk "late" = true ∧ sOk "0" = true := by decide +kernel
section
variable {n : Nat} {s : Dr} {K T : List Str}
theorem evs_U (h : Told K T) : ∀ d ∈ evs K T, d ∈ U := fun d hd => by
  refine List.mem_append_left _ (List.mem_append_right _ ?_)
  rw [mem_evs] at hd ⊢
  rcases hd with ⟨k, hk, e⟩ | hd | ⟨k, hk, e⟩ | ⟨k, hk, e⟩
  · exact .inl ⟨k, h.mem k (List.mem_append_left _ hk), e⟩
  · exact .inr (.inl hd)
  · exact .inr (.inr (.inl ⟨k, h.mem k (List.mem_append_right _ hk), e⟩))
  · exact .inr (.inr (.inr ⟨k, h.mem k (List.mem_append_right _ hk), e⟩))
theorem ev_yes (o : Ok K T) (h : 4 ≤ n) (s : Dr) : ∀ d ∈ evs K T, (L n).call 19 [Y K T, d] s = .ok (.bl true) s := fun d hd => by
  rw [mem_evs] at hd
  have f1s := fun (w : Str) (s : Dr) => f1_no (n := n - 1) (s := s) (lo := .int 0) (hi := .int 3) (d := .str w) (by omega) (.inr (.inr ⟨w, rfl⟩))
  have f10s := fun (w : Str) (hw : sOk w = true) (s : Dr) => f10_str (n := n - 1) (s := s) (K := K) (T := T) (w := w) (by omega) hw o.sk
  have f11s := fun (w : Str) (hw : sOk w = true) (s : Dr) => f11_str (n := n - 1) (s := s) (K := K) (T := T) (w := w) (by omega) hw o.st
  have num : ∀ i : Int, 0 ≤ i ∧ i ≤ 3 → (L n).call 19 [Y K T, ev2 "end" (.int i)] s = .ok (.bl true) s := fun i hi => by
    rw [f19_ok (c1 := true) (c2 := false) (c3 := false) s_ok.2.1 (by omega) (fun s => by rw [f1_int (by omega)]; simp [hi]) (fun s => f10_no (by omega) (.inr (.inl ⟨_, rfl⟩))) (fun s => f11_no (by omega) (.inr (.inl ⟨_, rfl⟩)))]
    simp
  rcases hd with ⟨k, hk, rfl⟩ | (rfl | rfl | rfl | rfl) | ⟨k, hk, rfl⟩ | ⟨k, hk, rfl⟩
  · rw [f19_ok s_ok.1 (by omega) (f1s k) (f10s k (o.sk k hk)) (f11s k (o.sk k hk))]
    simp [n1, hk]
  · exact num 0 (by decide)
  · exact num 1 (by decide)
  · exact num 2 (by decide)
  · exact num 3 (by decide)
  · rw [f19_ok s_ok.2.2.1 (by omega) (f1s k) (f10s k (o.st k hk)) (f11s k (o.st k hk))]
    simp [n2, n3, hk]
  · rw [f19_ok s_ok.2.2.2.1 (by omega) (f1s k) (f10s k (o.st k hk)) (f11s k (o.st k hk))]
    simp [n4, n5, hk]
def odB (k0 : Str) : List D := [.non, .int 5, .str "start", .tup [], .tup [.str "start"], ev2 "start" (.str "late"), ev2 "end" (.int 4), ev2 "end" (.int (-1)), ev2 "end" (.bl true), ev2 "end" (.str "0"), .lst [.str "start", .str k0], ev2 "take" (.str k0), ev2 "give" .non]
def od (k0 : Str) (T : List Str) : List D := (odB k0 ++ [.tup [.str "start", .str k0, .int 1], .tup [.int 0, .str k0], ev2 "begin" (.str k0)]) ++ T.map fun t => ev2 "start" (.str t)
theorem od_U {k0 : Str} (h : Told K T) (h0 : k0 ∈ K) : ∀ d ∈ od k0 T, d ∈ U := fun d hd => by
  have hk : k0 ∈ W13 := h.mem k0 (List.mem_append_left _ h0)
  have ho : ∀ d ∈ odds k0, d ∈ U := fun d hd => List.mem_append_right _ (List.mem_flatMap.mpr ⟨k0, hk, hd⟩)
  have hf : ∀ d ∈ fixd, d ∈ U := fun d hd => List.mem_append_left _ (List.mem_append_left _ hd)
  have he : ∀ d ∈ evs W13 W13, d ∈ U := fun d hd => List.mem_append_left _ (List.mem_append_right _ hd)
  simp only [od, odB, List.mem_append, List.mem_cons, List.not_mem_nil, or_false, List.mem_map] at hd
  rcases hd with ((rfl | rfl | rfl | rfl | rfl | rfl | rfl | rfl | rfl | rfl | rfl | rfl | rfl) | (rfl | rfl | rfl)) | ⟨t, ht, rfl⟩
  · exact hf _ (by simp [fixd])
  · exact hf _ (by simp [fixd])
  · exact hf _ (by simp [fixd])
  · exact hf _ (by simp [fixd])
  · exact hf _ (by simp [fixd])
  · exact hf _ (by simp [fixd])
  · exact hf _ (by simp [fixd])
  · exact hf _ (by simp [fixd])
  · exact hf _ (by simp [fixd])
  · exact hf _ (by simp [fixd])
  · exact ho _ (by simp [odds])
  · exact he _ (mem_evs.mpr (.inr (.inr (.inl ⟨k0, hk, rfl⟩))))
  · exact hf _ (by simp [fixd])
  · exact ho _ (by simp [odds])
  · exact ho _ (by simp [odds])
  · exact ho _ (by simp [odds])
  · exact he _ (mem_evs.mpr (.inl ⟨t, h.mem t (List.mem_append_right _ ht), rfl⟩))
theorem od_no {k0 : Str} (h : Told K T) (h0 : k0 ∈ K) : ∀ d ∈ od k0 T, d ∉ evs K T := fun d hd he => by
  have hlate : ("late" : Str) ∉ K := fun z => late_no (h.mem _ (List.mem_append_left _ z))
  have h0t : k0 ∉ T := fun z => h.ok.dj k0 z h0
  rw [mem_evs] at he
  simp only [od, odB, List.mem_append, List.mem_cons, List.not_mem_nil, or_false, List.mem_map] at hd
  rcases hd with ((rfl | rfl | rfl | rfl | rfl | rfl | rfl | rfl | rfl | rfl | rfl | rfl | rfl) | (rfl | rfl | rfl)) | ⟨t, ht, rfl⟩ <;>
    simp [ev2, n1, n2, n3, n4, n5, n6, n7, n8, n9, n10, Ne.symm n1, Ne.symm n2, Ne.symm n3, Ne.symm n4, Ne.symm n5, Ne.symm n6, Ne.symm n7, Ne.symm n8, Ne.symm n9, Ne.symm n10, hlate, h0t] at he
  · exact h.ok.dj t ht he
theorem od_ev {k0 : Str} (ht : Told K T) (h0 : k0 ∈ K) (h : 4 ≤ n) (s : Dr) : ∀ d ∈ od k0 T, (L n).call 19 [Y K T, d] s = .ok (.bl false) s := fun d hd => by
  have o := ht.ok
  have hlate : ("late" : Str) ∉ K := fun z => late_no (ht.mem _ (List.mem_append_left _ z))
  have h0t : k0 ∉ T := fun z => o.dj k0 z h0
  have f1s := fun (w : Str) (s : Dr) => f1_no (n := n - 1) (s := s) (lo := .int 0) (hi := .int 3) (d := .str w) (by omega) (.inr (.inr ⟨w, rfl⟩))
  have f10s := fun (w : Str) (hw : sOk w = true) (s : Dr) => f10_str (n := n - 1) (s := s) (K := K) (T := T) (w := w) (by omega) hw o.sk
  have f11s := fun (w : Str) (hw : sOk w = true) (s : Dr) => f11_str (n := n - 1) (s := s) (K := K) (T := T) (w := w) (by omega) hw o.st
  have num : ∀ i : Int, ¬ (0 ≤ i ∧ i ≤ 3) → (L n).call 19 [Y K T, ev2 "end" (.int i)] s = .ok (.bl false) s := fun i hi => by
    rw [f19_ok (c1 := false) (c2 := false) (c3 := false) s_ok.2.1 (by omega) (fun s => by rw [f1_int (by omega)]; simp; omega) (fun s => f10_no (by omega) (.inr (.inl ⟨_, rfl⟩))) (fun s => f11_no (by omega) (.inr (.inl ⟨_, rfl⟩)))]
    simp
  simp only [od, odB, List.mem_append, List.mem_cons, List.not_mem_nil, or_false, List.mem_map] at hd
  rcases hd with ((rfl | rfl | rfl | rfl | rfl | rfl | rfl | rfl | rfl | rfl | rfl | rfl | rfl) | (rfl | rfl | rfl)) | ⟨t, ht, rfl⟩
  · exact f19_nt (by omega) (.inl rfl)
  · exact f19_nt (by omega) (.inr (.inl ⟨_, rfl⟩))
  · exact f19_nt (by omega) (.inr (.inr (.inl ⟨_, rfl⟩)))
  · exact f19_len (by omega) (by simp)
  · exact f19_len (by omega) (by simp)
  · rw [f19_ok s_ok.1 (by omega) (f1s _) (f10s _ s_ok.2.2.2.2.2.1) (f11s _ s_ok.2.2.2.2.2.1)]
    simp [n1, hlate]
  · exact num 4 (by decide)
  · exact num (-1) (by decide)
  · rw [f19_ok (c1 := false) (c2 := false) (c3 := false) s_ok.2.1 (by omega) (fun s => f1_no (by omega) (.inr (.inl ⟨_, rfl⟩))) (fun s => f10_no (by omega) (.inr (.inr (.inl ⟨_, rfl⟩)))) (fun s => f11_no (by omega) (.inr (.inr (.inl ⟨_, rfl⟩))))]
    simp
  · rw [f19_ok s_ok.2.1 (by omega) (f1s _) (f10s _ s_ok.2.2.2.2.2.2) (f11s _ s_ok.2.2.2.2.2.2)]
    simp
  · exact f19_nt (by omega) (.inr (.inr (.inr ⟨_, rfl⟩)))
  · rw [f19_ok s_ok.2.2.1 (by omega) (f1s _) (f10s _ (o.sk _ h0)) (f11s _ (o.sk _ h0))]
    simp [n2, n3, h0t]
  · rw [f19_ok (c1 := false) (c2 := false) (c3 := false) s_ok.2.2.2.1 (by omega) (fun s => f1_no (by omega) (.inl rfl)) (fun s => f10_no (by omega) (.inl rfl)) (fun s => f11_no (by omega) (.inl rfl))]
    simp [n4, n5]
  · exact f19_len (by omega) (by simp)
  · exact f19_ns (by omega) ⟨_, rfl⟩
  · rw [f19_ok s_ok.2.2.2.2.1 (by omega) (f1s _) (f10s _ (o.sk _ h0)) (f11s _ (o.sk _ h0))]
    simp [n7, n8, n9, n10]
  · rw [f19_ok s_ok.1 (by omega) (f1s _) (f10s _ (o.st _ ht)) (f11s _ (o.st _ ht))]
    simp [n1, o.dj t ht]
/-- is it among all events, by what is shown -/
theorem due_ev {cl : Cl} {env : En} {thing : D} (ht : Told K T) (hu : thing ∈ U) (h5 : env[5]? = some (some thing)) (h8 : (wipeE env [13])[8]? = some (some (.lst (evs K T)))) (h8' : env[8]? = some (some (.lst (evs K T)))) (hl : 13 < (wipeE env [13]).length) {q : Bool} (hq : q = true ↔ thing ∈ evs K T) :
    ev Co.P0 cl (.cmp .In (.blt .repr (.var 5)) (.comp [("event", 13)] (.blt .repr (.var 13)) (.nm 13) (.var 8) .nop)) env s = .ok (.bl q) s := by
  have lE : (evs K T).length ≤ LIM := by
    rw [evs_len]
    have := ht.ok.k2
    have := ht.ok.t2
    unfold LIM; omega
  have e := ev_cm (P := Co.P0) (cl := cl) (own := [("event", 13)]) (e := .blt .repr (.var 13)) (it := .var 8) (i := 13) (env := env) (s := s) (x := .lst (evs K T)) (xs := evs K T) (g := fun d => .str (shw d)) (by simp [ev, h8']) rfl lE (fun y hy => by
    show ev Co.P0 cl _ ((wipeE env [13]).set 13 (some y)) s = _
    have g2 : ((wipeE env [13]).set 13 (some y))[13]? = some (some y) := List.getElem?_set_self hl
    generalize (wipeE env [13]).set 13 (some y) = en at g2 ⊢
    simp [ev, g2, U_of (evs_U ht y hy), ofO])
  have e2 : (evs K T).map (fun d => D.str (shw d)) = kl ((evs K T).map shw) := by rw [kl, List.map_map]; rfl
  rw [e2] at e
  have e3 : cmpR Co.P0 cl .In (.str (shw thing)) (.lst (kl ((evs K T).map shw))) s = .ok (.bl q) s := by
    rw [cmpR_of rfl]
    simp only [cmpD, in_lst]
    have : decide (shw thing ∈ (evs K T).map shw) = q := by
      cases q with
      | true => exact decide_eq_true (List.mem_map.mpr ⟨thing, hq.mp rfl, rfl⟩)
      | false =>
        refine decide_eq_false fun z => ?_
        obtain ⟨d, hd, e⟩ := List.mem_map.mp z
        have := inj_of U_nd (evs_U ht d hd) hu e
        subst this
        exact absurd (hq.mpr hd) (by simp)
    rw [this]; rfl
  generalize (C.comp [(("event" : Str), 13)] (.blt .repr (.var 13)) (.nm 13) (.var 8) .nop) = cc at e ⊢
  generalize kl ((evs K T).map shw) = X at e e3
  simp [ev, h5, U_of hu, ofO, e, e3]
end
end Pl
end Ah

/-! ## K00A -/
set_option Elab.async false
set_option linter.all false
set_option maxRecDepth 100000
set_option maxHeartbeats 4000000
namespace Ah
open PySem PySem.Spec PyProof.Rows L2
namespace Pl
section
variable {n : Nat} {s : Dr} {K T : List Str}
theorem ren_ev9 {cl : Cl} {env : En} {w o : Str} {ws : List Str} {it : C} {d : D} (hd : Sq d (kl ws)) (hw : ws.length ≤ LIM) (he : ev Co.P0 cl it env s = .ok d s) (h1 : (wipeE env [9])[3]? = some (some (.str w))) (h2 : (wipeE env [9])[4]? = some (some (.str o))) (hl : 9 < (wipeE env [9]).length) :
    ev Co.P0 cl (.comp [("one", 9)] (.ife (.cmp .Eq (.var 9) (.var 3)) (.var 4) (.var 9)) (.nm 9) it .nop) env s = .ok (.lst (kl (ren w o ws))) s := by
  have e := ev_cm (P := Co.P0) (cl := cl) (own := [("one", 9)]) (e := .ife (.cmp .Eq (.var 9) (.var 3)) (.var 4) (.var 9)) (i := 9) (env := env) (s := s) (x := d) (xs := kl ws) (g := fun d => match d with | .str h => .str (if h = w then o else h) | d => d) he (items_sq hd).1 (by rw [kl, List.length_map]; exact hw) (fun y hy => by
    obtain ⟨x, hx, rfl⟩ := List.mem_map.mp hy
    show ev Co.P0 cl _ ((wipeE env [9]).set 9 (some (.str x))) s = _
    have g1 : ((wipeE env [9]).set 9 (some (.str x)))[3]? = some (some (.str w)) := by rw [List.getElem?_set_ne (by decide)]; exact h1
    have g2 : ((wipeE env [9]).set 9 (some (.str x)))[4]? = some (some (.str o)) := by rw [List.getElem?_set_ne (by decide)]; exact h2
    have g5 : ((wipeE env [9]).set 9 (some (.str x)))[9]? = some (some (.str x)) := List.getElem?_set_self hl
    generalize (wipeE env [9]).set 9 (some (.str x)) = en at g1 g2 g5 ⊢
    by_cases hxw : x = w <;> simp [ev, g1, g2, g5, eq_str, D.truth, hxw])
  rw [e]
  simp [ren, kl, Function.comp_def]
/-- what is known of the other word -/
structure Oth (K T : List Str) (w : Str) (o : D) (fr : Bool) : Prop where
  e34 : ∃ b, (∀ n s, 1 ≤ n → (L n).call 34 [o] s = .ok (.bl b) s) ∧ (b = false → fr = false) ∧ (b = true → ∀ cl s, cmpR Co.P0 cl .NotIn o (.lst (kl (K ++ T))) s = .ok (.bl fr) s)
  yes : fr = true → ∃ x, o = .str x ∧ Ok (ren w x K) (ren w x T) ∧ ∀ n s, 7 ≤ n → (L n).call 15 [Y K T, .str w, o] s = .ok (Y (ren w x K) (ren w x T)) s
  no : fr = false → ∀ n s, 7 ≤ n → (L n).call 15 [Y K T, .str w, o] s = .exc 3 [] s
theorem oth_str {w x : Str} (ok : Ok K T) (hw : w ∈ K ++ T) (hx : sOk x = true) : Oth K T w (.str x) (plainW x && decide (x ∉ K ++ T)) := by
  have sw : sOk w = true := (List.mem_append.mp hw).elim (ok.sk w) (ok.st w)
  have e12 : ∀ n s, 4 ≤ n → (L n).call 12 [Y K T, .str w, .str x] s = if plainW x = true ∧ decide (x ∈ K) = false ∧ decide (x ∈ T) = false then .ok .non s else .exc 3 [] s := fun n s h =>
    f12_3 (b1 := decide (w ∈ K)) (b2 := decide (w ∈ T)) (by omega) (fun s => f10_str (by omega) sw ok.sk) (fun s => f11_str (by omega) sw ok.st) (by simpa using List.mem_append.mp hw) (fun s => f3_str (by omega)) (fun s => f10_str (by omega) hx ok.sk) (fun s => f11_str (by omega) hx ok.st)
  refine ⟨⟨plainW x, fun n s h => f34_str h, fun h => by rw [h]; rfl, fun h cl s => ?_⟩, fun h => ?_, fun h n s hn => ?_⟩
  · rw [h, cmpR_of rfl]; simp only [cmpD, in_lst]; simp [ofO]
  · simp only [Bool.and_eq_true, decide_eq_true_eq, List.mem_append, not_or] at h
    have ok' := ren_ok (w := w) ok h.1 hx h.2.1 h.2.2
    refine ⟨x, rfl, ok', fun n s hn => f15_ok (by omega) (fun s => ?_) fun s => f14_ok (by omega) ok ok'⟩
    rw [e12 _ s (by omega), if_pos ⟨h.1, by simp [h.2.1], by simp [h.2.2]⟩]
  · refine f15_x (by omega) fun s => ?_
    rw [e12 _ s (by omega), if_neg fun z => ?_]
    have : (plainW x && decide (x ∉ K ++ T)) = true := by
      have z2 : x ∉ K := by simpa using z.2.1
      have z3 : x ∉ T := by simpa using z.2.2
      simp [z.1, z2, z3]
    rw [h] at this; cases this
theorem oth_non {w : Str} (ok : Ok K T) (hw : w ∈ K ++ T) : Oth K T w .non false := by
  have sw : sOk w = true := (List.mem_append.mp hw).elim (ok.sk w) (ok.st w)
  refine ⟨⟨false, fun n s h => f34_no h (.inl rfl), fun _ => rfl, (fun h => nomatch h)⟩, (fun h => nomatch h), fun _ n s hn => f15_x (by omega) fun s => ?_⟩
  have := f12_3 (n := n - 1) (s := s) (K := K) (T := T) (d := .str w) (o := .non) (b1 := decide (w ∈ K)) (b2 := decide (w ∈ T)) (c1 := false) (c2 := false) (c3 := false) (by omega) (fun s => f10_str (by omega) sw ok.sk) (fun s => f11_str (by omega) sw ok.st) (by simpa using List.mem_append.mp hw) (fun s => f3_ns (by omega) (.inl rfl)) (fun s => f10_no (by omega) (.inl rfl)) (fun s => f11_no (by omega) (.inl rfl))
  rw [this, if_neg (by simp)]
theorem oth_of {w k0 : Str} {o : D} (h : Told K T) (hw : w ∈ K ++ T) (hk : k0 ∈ K) (ho : o ∈ ([.str "late", .str "m", .str "then", .str w, .str k0, .str "A", .str "", .str "a b", .str "abcdefghi", .non] : List D)) : ∃ fr, Oth K T w o fr := by
  have sw : sOk w = true := (List.mem_append.mp hw).elim (h.ok.sk w) (h.ok.st w)
  have s0 := h.ok.sk k0 hk
  simp only [List.mem_cons, List.not_mem_nil, or_false] at ho
  rcases ho with rfl | rfl | rfl | rfl | rfl | rfl | rfl | rfl | rfl | rfl
  · exact ⟨_, oth_str h.ok hw (by decide +kernel)⟩
  · exact ⟨_, oth_str h.ok hw (by decide +kernel)⟩
  · exact ⟨_, oth_str h.ok hw (by decide +kernel)⟩
  · exact ⟨_, oth_str h.ok hw sw⟩
  · exact ⟨_, oth_str h.ok hw s0⟩
  · exact ⟨_, oth_str h.ok hw (by decide +kernel)⟩
  · exact ⟨_, oth_str h.ok hw (by decide +kernel)⟩
  · exact ⟨_, oth_str h.ok hw (by decide +kernel)⟩
  · exact ⟨_, oth_str h.ok hw (by decide +kernel)⟩
  · exact ⟨_, oth_non h.ok hw⟩
/-- words that are neither kind nor tool -/
theorem bad5 (h : 7 ≤ n) (ht : Told K T) {d : D} (hd : d ∈ ([.str "late", .non, .int 5, .str ""] : List D)) (o : D) (s : Dr) : (L n).call 15 [Y K T, d, o] s = .exc 5 [] s := by
  have no : ∀ x : Str, sOk x = true → x ∉ W13 → (L n).call 15 [Y K T, .str x, o] s = .exc 5 [] s := fun x sx hx => by
    have hk : x ∉ K := fun z => hx (ht.mem x (List.mem_append_left _ z))
    have h2 : x ∉ T := fun z => hx (ht.mem x (List.mem_append_right _ z))
    exact f15_x (by omega) fun s => f12_5 (by omega) (fun s => by rw [f10_str (by omega) sx ht.ok.sk, decide_eq_false hk]) (fun s => by rw [f11_str (by omega) sx ht.ok.st, decide_eq_false h2])
  have no2 : ∀ d : D, NoStr d → (L n).call 15 [Y K T, d, o] s = .exc 5 [] s := fun d hd => f15_x (by omega) fun s => f12_5 (by omega) (fun s => f10_no (by omega) hd) (fun s => f11_no (by omega) hd)
  simp only [List.mem_cons, List.not_mem_nil, or_false] at hd
  rcases hd with rfl | rfl | rfl | rfl
  · exact no _ (by decide +kernel) late_no
  · exact no2 _ (.inl rfl)
  · exact no2 _ (.inr (.inl ⟨_, rfl⟩))
  · exact no _ (by decide +kernel) (by decide +kernel)
theorem bad2 (h : 4 ≤ n) {d : D} (hd : d ∈ ([.int (-1), .int 41, .non, .bl true, .str "1"] : List D)) (s : Dr) : (L n).call 17 [Y K T, d] s = .exc 2 [] s := by
  simp only [List.mem_cons, List.not_mem_nil, or_false] at hd
  rcases hd with rfl | rfl | rfl | rfl | rfl
  · exact f17_2 (by omega) fun s => by rw [f1_int (by omega)]; rfl
  · exact f17_2 (by omega) fun s => by rw [f1_int (by omega)]; rfl
  · exact f17_2 (by omega) fun s => f1_no (by omega) (.inl rfl)
  · exact f17_2 (by omega) fun s => f1_no (by omega) (.inr (.inl ⟨_, rfl⟩))
  · exact f17_2 (by omega) fun s => f1_no (by omega) (.inr (.inr ⟨_, rfl⟩))
theorem cmp_11 {K' T' : List Str} {m : Nat} (h : 2 ≤ m) : cmpR Co.P0 (L m) .NotEq (.lst [Y K' T']) (.lst [Y K' T']) s = .ok (.bl false) s := by
  have e := eq_yy (n := m) (K := K') (T := T') (K' := K') (T' := T') (s := s) h
  rw [decide_eq_true (show K' = K' ∧ T' = T' from ⟨rfl, rfl⟩)] at e
  show ((L m).call 8 [Y K' T', Y K' T'] s).quiet.bind _ = _
  rw [e]
  simp [R.quiet]
abbrev zR (K T : List Str) (w o fr fd er es : Option D) (ow : List Nat) : Z := ⟨[some .drw, some (Tl K T), some (Y K T), w, o, fr, fd, er, es, none], ow, []⟩
theorem f37_ok (h : 9 ≤ n) (ht : Told K T) (s : Dr) : ∃ s', (L n).call 37 [.drw, Tl K T, Y K T] s = .ok (.bl true) s' := by
  have ok := ht.ok
  obtain ⟨k0, Kr, hK⟩ : ∃ k0 Kr, K = k0 :: Kr := by
    have := ok.k1
    cases hk : K with
    | nil => rw [hk] at this; simp at this
    | cons a l => exact ⟨a, l, rfl⟩
  have hk0 : k0 ∈ K := by rw [hK]; exact List.mem_cons_self
  have lK : K.length ≤ 40 := ok.k2
  have lT : T.length ≤ 2 := ok.t2
  have aKT : opD .Add (.lst (kl K)) (.lst (kl T)) = some (.lst (kl (K ++ T))) := add_kl (by unfold LIM; omega)
  have ik0 : idxD (.lst (kl K)) (.int 0) = some (.str k0) := by rw [hK]; simp [idxD, kl, atI, ixN]
  -- the word
  obtain ⟨dw, hdw, s1, e1⟩ := p25 (n := n - 1) (xs := kl (K ++ T)) (by omega) (by rw [hK]; simp [kl]) (by rw [kl, List.length_map, List.length_append]; omega) s
  obtain ⟨w, hw, rfl⟩ := List.mem_map.mp hdw
  -- the other
  obtain ⟨o, ho, s2, e2⟩ := p25 (n := n - 1) (xs := [.str "late", .str "m", .str "then", .str w, .str k0, .str "A", .str "", .str "a b", .str "abcdefghi", .non]) (by omega) (by simp) (by simp only [List.length_cons, List.length_nil]; decide) s1
  obtain ⟨fr, O⟩ := oth_of ht hw hk0 ho
  -- the odd ones
  obtain ⟨d5, hd5, s3, e3⟩ := p25 (n := n - 1) (xs := [.str "late", .non, .int 5, .str ""]) (by omega) (by simp) (by decide) s2
  obtain ⟨d2, hd2, s4, e4⟩ := p25 (n := n - 1) (xs := [.int (-1), .int 41, .non, .bl true, .str "1"]) (by omega) (by simp) (by decide) s3
  have x5 := bad5 (n := n - 1) (by omega) ht hd5 .non s3
  have x2 := bad2 (n := n - 1) (K := K) (T := T) (by omega) hd2 s4
  have x6 := f15_6 (n := n - 1) (s := s3) (d := .non) (w := .non) (o := .non) (by omega) (.inl rfl)
  have x20 := f20_6 (n := n - 1) (s := s4) (d := Tl K T) (by omega) (.inr ⟨_, rfl⟩)
  have x21 := f21_6 (n := n - 1) (s := s4) (y := .non) (d := .non) (by omega) (.inl rfl)
  refine ⟨s4, ?_⟩
  rw [ca37 (by omega)]
  unfold runF Co.c37
  have ez : z0 Co.N37 ([D.drw, Tl K T, Y K T].map some) = zR K T none none none none none none [] := rfl
  rw [ez]
  have hl0 : (0 : Nat) ≤ LIM := Nat.zero_le _
  have hl1 : (0 + 1 : Nat) ≤ LIM := by decide
  have hl4 : (0 + 1 + 1 + 1 + 1 : Nat) ≤ LIM := by decide
  have hl5 : (0 + 1 + 1 + 1 + 1 + 1 : Nat) ≤ LIM := by decide
  have hl10 : (0 + 1 + 1 + 1 + 1 + 1 + 1 + 1 + 1 + 1 + 1 : Nat) ≤ LIM := by decide
  rw [evS_seq (z' := zR K T (some (.str w)) none none none none none []) (s' := s1)]
  rotate_left
  · generalize kl (K ++ T) = KT at aKT e1
    simp [zR, evS, ev, evL, tl0, tl1, aKT, ofO, e1]
  rw [evS_seq (z' := zR K T (some (.str w)) (some o) none none none none []) (s' := s2)]
  rotate_left
  · generalize hA : kl K = A at ik0 ⊢
    simp [zR, hA, evS, ev, evL, tl0, tl1, ik0, ofO, R.lim, hl10, e2]
  obtain ⟨b34, q34, q1, q2⟩ := O.e34
  rw [evS_seq (z' := zR K T (some (.str w)) (some o) (some (.bl fr)) none none none []) (s' := s2)]
  rotate_left
  · have e34 := q34 (n - 1) s2 (by omega)
    cases b34 with
    | false =>
      have := q1 rfl
      subst this
      simp [zR, evS, ev, evL, e34, D.truth]
    | true =>
      have q2 := q2 rfl (L (n - 1)) s2
      generalize kl (K ++ T) = KT at aKT q2
      simp [zR, evS, ev, evL, e34, D.truth, tl0, tl1, aKT, ofO, q2]
  rw [evS_seq (z' := zR K T (some (.str w)) (some o) (some (.bl fr)) (some (.lst [])) none none [6]) (s' := s2)]
  rotate_left
  · simp [zR, evS, ev, evL, R.lim, Z.store, Z.setO, Ah.D.immO, D.immL]
  have em : ∀ (d : D) (z : Z), z.keep d.imm [2, 3, 4] = if d.imm = true then z else freeze z [2, 3, 4] := fun _ _ => rfl
  cases fr with
  | true =>
    obtain ⟨x, rfl, ok', e15⟩ := O.yes rfl
    have e15 := e15 (n - 1) s2 (by omega)
    rw [evS_seq (z' := zR K T (some (.str w)) (some (.str x)) (some (.bl true)) (some (.lst [Y (ren w x K) (ren w x T)])) (some .non) none [6]) (s' := s2)]
    rotate_left
    · generalize Y (ren w x K) (ren w x T) = y at e15 ⊢
      cases hq : y.imm <;> simp [zR, evS, ev, evL, mask, maskF, vars, e15, Z.keep, freeze, Z.at, Z.upd, Z.set, hq, show (0 : Nat) < LIM from by decide]
    rw [evS_seq (z' := zR K T (some (.str w)) (some (.str x)) (some (.bl true)) (some (.lst [Y (ren w x K) (ren w x T)])) (some .non) none [6]) (s' := s2)]
    rotate_left
    · have c1 : cmpR Co.P0 (L (n - 1)) .NotEq (.bl true) (.bl true) s2 = .ok (.bl false) s2 := rfl
      simp [zR, evS, evB, ev, D.isN, c1, D.truth, ofO]
    rw [evS_seq (z' := zR K T (some (.str w)) (some (.str x)) (some (.bl true)) (some (.lst [Y (ren w x K) (ren w x T)])) (some .non) none [6]) (s' := s2)]
    rotate_left
    · have r1 := ren_ev9 (cl := L (n - 1)) (s := s2) (env := (zR K T (some (.str w)) (some (.str x)) (some (.bl true)) (some (.lst [Y (ren w x K) (ren w x T)])) (some .non) none [6]).env) (w := w) (o := x) (ws := K) (it := .idx (.var 1) (.int 0)) (d := .lst (kl K)) (.inl rfl) (by unfold LIM; omega) (by simp [ev, tl0, ofO]) rfl rfl (by show 9 < 10; decide)
      have r2 := ren_ev9 (cl := L (n - 1)) (s := s2) (env := (zR K T (some (.str w)) (some (.str x)) (some (.bl true)) (some (.lst [Y (ren w x K) (ren w x T)])) (some .non) none [6]).env) (w := w) (o := x) (ws := T) (it := .idx (.var 1) (.int 1)) (d := .lst (kl T)) (.inl rfl) (by unfold LIM; omega) (by simp [ev, tl1, ofO]) rfl rfl (by show 9 < 10; decide)
      have r3 : (L (n - 1)).call 31 [.tup [.lst (kl (ren w x K)), .lst (kl (ren w x T))]] s2 = .ok (Y (ren w x K) (ren w x T)) s2 := f31_ok (n := n - 1) (s := s2) (K := ren w x K) (T := ren w x T) (d := Y (ren w x K) (ren w x T)) (by omega) fun s => mk_ok (by omega) ok' (.inl rfl) (.inl rfl)
      have r4 := cmp_11 (s := s2) (m := n - 1) (K' := ren w x K) (T' := ren w x T) (by omega)
      generalize (C.comp [(("one" : Str), 9)] (.ife (.cmp .Eq (.var 9) (.var 3)) (.var 4) (.var 9)) (.nm 9) (.idx (.var 1) (.int 0)) .nop) = c1 at r1 ⊢
      generalize (C.comp [(("one" : Str), 9)] (.ife (.cmp .Eq (.var 9) (.var 3)) (.var 4) (.var 9)) (.nm 9) (.idx (.var 1) (.int 1)) .nop) = c2 at r2 ⊢
      generalize Y (ren w x K) (ren w x T) = y at *
      generalize kl (ren w x K) = A at *
      generalize kl (ren w x T) = B at *
      simp only [zR] at r1 r2 ⊢
      simp [evS, evB, ev, evL, r1, r2, r3, r4, R.lim, hl1, show (0 + 1 + 1 : Nat) ≤ LIM from by decide, D.truth, ofO]
    rw [evS_seq (z' := zR K T (some (.str w)) (some (.str x)) (some (.bl true)) (some (.lst [Y (ren w x K) (ren w x T)])) (some .non) none [6]) (s' := s2)]
    rotate_left
    · have kp : kwPut Co.P0 15 ["other", "word", "yard"] [.str x, .str w, Y K T] = some [Y K T, .str w, .str x] := rfl
      have r4 := (cmp_yy (n := n - 1) (s := s2) (K := ren w x K) (T := ren w x T) (K' := ren w x K) (T' := ren w x T) (by omega)).2
      rw [decide_eq_true (show ren w x K = ren w x K ∧ ren w x T = ren w x T from ⟨rfl, rfl⟩)] at r4
      have i0 : ∀ y : D, idxD (.lst [y]) (.int 0) = some y := fun _ => rfl
      generalize Y (ren w x K) (ren w x T) = y at *
      simp [zR, evS, evB, ev, evL, kp, e15, i0, r4, D.truth, ofO]
    generalize (some (D.str x)) = oo
    generalize (some (D.bl true)) = ff
    generalize [Y (ren w x K) (ren w x T)] = fd
    generalize (some D.non) = er
    rw [evS_seq (z' := zR K T (some (.str w)) oo ff (some (.lst fd)) er (some (.lst [.bl true])) [8, 6]) (s' := s3)]
    rotate_left
    · simp [zR, evS, ev, evL, mask, maskF, vars, e3, x5, D.ty, isiL, ofO, R.lim, hl1, hl4, Z.keep, Z.store, Z.setO, Ah.D.immO, D.immL, D.imm]
    rw [evS_seq (z' := zR K T (some (.str w)) oo ff (some (.lst fd)) er (some (.lst [.bl true, .bl true])) [8, 6]) (s' := s3)]
    rotate_left
    · simp [zR, evS, ev, evL, mask, maskF, vars, x6, D.ty, isiL, ofO, Z.keep, D.imm, Z.at, Z.upd, show (1 : Nat) < LIM from by decide]
    rw [evS_seq (z' := zR K T (some (.str w)) oo ff (some (.lst fd)) er (some (.lst [.bl true, .bl true, .bl true])) [8, 6]) (s' := s4)]
    rotate_left
    · simp [zR, evS, ev, evL, mask, maskF, vars, e4, x2, D.ty, isiL, ofO, R.lim, hl5, Z.keep, D.imm, Z.at, Z.upd, show (2 : Nat) < LIM from by decide]
    rw [evS_seq (z' := zR K T (some (.str w)) oo ff (some (.lst fd)) er (some (.lst [.bl true, .bl true, .bl true, .bl true])) [8, 6]) (s' := s4)]
    rotate_left
    · generalize hTl : Tl K T = tl at x20 ⊢
      simp [zR, hTl, evS, ev, evL, mask, maskF, vars, x20, D.ty, isiL, ofO, Z.keep, D.imm, Z.at, Z.upd, show (3 : Nat) < LIM from by decide]
    rw [evS_seq (z' := zR K T (some (.str w)) oo ff (some (.lst fd)) er (some (.lst [.bl true, .bl true, .bl true, .bl true, .bl true])) [8, 6]) (s' := s4)]
    rotate_left
    · simp [zR, evS, ev, evL, mask, maskF, vars, x21, D.ty, isiL, ofO, Z.keep, D.imm, Z.at, Z.upd, show (4 : Nat) < LIM from by decide]
    have m5 : opD .Mult (.lst [.bl true]) (.int 5) = some (.lst [.bl true, .bl true, .bl true, .bl true, .bl true]) := rfl
    have c5 : cmpR Co.P0 (L (n - 1)) .Eq (.lst [.bl true, .bl true, .bl true, .bl true, .bl true]) (.lst [.bl true, .bl true, .bl true, .bl true, .bl true]) s4 = .ok (.bl true) s4 := rfl
    simp [zR, evS, ev, evL, R.lim, hl1, m5, c5, ofO, endF]
  | false =>
    have e15 := O.no rfl (n - 1) s2 (by omega)
    rw [evS_seq (z' := zR K T (some (.str w)) (some o) (some (.bl false)) (some (.lst [])) (some (.exc 3 [])) none [6]) (s' := s2)]
    rotate_left
    · simp [zR, evS, ev, evL, mask, maskF, vars, e15, Z.set]
    rw [evS_seq (z' := zR K T (some (.str w)) (some o) (some (.bl false)) (some (.lst [])) (some (.exc 3 [])) none [6]) (s' := s2)]
    rotate_left
    · have c1 : cmpR Co.P0 (L (n - 1)) .NotEq (.bl false) (.bl false) s2 = .ok (.bl false) s2 := rfl
      simp [zR, evS, evB, ev, D.isN, c1, D.truth, D.ty, isiL, ofO]
    rw [evS_seq (z' := zR K T (some (.str w)) (some o) (some (.bl false)) (some (.lst [])) (some (.exc 3 [])) none [6]) (s' := s2)]
    rotate_left
    · simp [zR, evS, evB, ev, D.truth, ofO]
    rw [evS_seq (z' := zR K T (some (.str w)) (some o) (some (.bl false)) (some (.lst [])) (some (.exc 3 [])) none [6]) (s' := s2)]
    rotate_left
    · simp [zR, evS, evB, ev, D.truth, ofO]
    generalize (some o) = oo
    generalize (some (D.bl false)) = ff
    generalize ([] : List D) = fd
    generalize (some (D.exc 3 fd)) = er
    rw [evS_seq (z' := zR K T (some (.str w)) oo ff (some (.lst fd)) er (some (.lst [.bl true])) [8, 6]) (s' := s3)]
    rotate_left
    · simp [zR, evS, ev, evL, mask, maskF, vars, e3, x5, D.ty, isiL, ofO, R.lim, hl1, hl4, Z.keep, Z.store, Z.setO, Ah.D.immO, D.immL, D.imm]
    rw [evS_seq (z' := zR K T (some (.str w)) oo ff (some (.lst fd)) er (some (.lst [.bl true, .bl true])) [8, 6]) (s' := s3)]
    rotate_left
    · simp [zR, evS, ev, evL, mask, maskF, vars, x6, D.ty, isiL, ofO, Z.keep, D.imm, Z.at, Z.upd, show (1 : Nat) < LIM from by decide]
    rw [evS_seq (z' := zR K T (some (.str w)) oo ff (some (.lst fd)) er (some (.lst [.bl true, .bl true, .bl true])) [8, 6]) (s' := s4)]
    rotate_left
    · simp [zR, evS, ev, evL, mask, maskF, vars, e4, x2, D.ty, isiL, ofO, R.lim, hl5, Z.keep, D.imm, Z.at, Z.upd, show (2 : Nat) < LIM from by decide]
    rw [evS_seq (z' := zR K T (some (.str w)) oo ff (some (.lst fd)) er (some (.lst [.bl true, .bl true, .bl true, .bl true])) [8, 6]) (s' := s4)]
    rotate_left
    · generalize hTl : Tl K T = tl at x20 ⊢
      simp [zR, hTl, evS, ev, evL, mask, maskF, vars, x20, D.ty, isiL, ofO, Z.keep, D.imm, Z.at, Z.upd, show (3 : Nat) < LIM from by decide]
    rw [evS_seq (z' := zR K T (some (.str w)) oo ff (some (.lst fd)) er (some (.lst [.bl true, .bl true, .bl true, .bl true, .bl true])) [8, 6]) (s' := s4)]
    rotate_left
    · simp [zR, evS, ev, evL, mask, maskF, vars, x21, D.ty, isiL, ofO, Z.keep, D.imm, Z.at, Z.upd, show (4 : Nat) < LIM from by decide]
    have m5 : opD .Mult (.lst [.bl true]) (.int 5) = some (.lst [.bl true, .bl true, .bl true, .bl true, .bl true]) := rfl
    have c5 : cmpR Co.P0 (L (n - 1)) .Eq (.lst [.bl true, .bl true, .bl true, .bl true, .bl true]) (.lst [.bl true, .bl true, .bl true, .bl true, .bl true]) s4 = .ok (.bl true) s4 := rfl
    simp [zR, evS, ev, evL, R.lim, hl1, m5, c5, ofO, endF]
end
end Pl
end Ah

/-! ## K00B -/
set_option Elab.async false
set_option linter.all false
set_option maxRecDepth 100000
set_option maxHeartbeats 4000000
namespace Ah
open PySem PySem.Spec PyProof.Rows L2
namespace Pl
def K40 : List Str := W45.take 40
def T2 : List Str := (W45.drop 40).take 2
theorem W45_len : W45.length = 45 := by decide +kernel
theorem K40_len : K40.length = 40 := by decide +kernel
theorem T2_len : T2.length = 2 := by decide +kernel
theorem W45_nd : W45.Nodup := by decide +kernel
theorem W45_pw : ∀ w ∈ W45, plainW w = true := by decide +kernel
theorem W45_ok : ∀ w ∈ W45, sOk w = true := by decide +kernel
theorem E1_W45 : ∀ w ∈ E1, w ∉ W45 := by decide +kernel
theorem W45_app : K40 ++ T2 = W45.take 42 := by unfold K40 T2; rw [← List.take_add]
theorem kt_mem {w : Str} (h : w ∈ K40 ++ T2) : w ∈ W45 := List.mem_of_mem_take (W45_app ▸ h)
theorem ok40 : Ok K40 T2 := by
  have nd : (K40 ++ T2).Nodup := by rw [W45_app]; exact W45_nd.sublist (List.take_sublist _ _)
  have nd3 := List.nodup_append.mp nd
  have m1 : ∀ w ∈ K40, w ∈ W45 := fun w hw => kt_mem (List.mem_append_left _ hw)
  have m2 : ∀ w ∈ T2, w ∈ W45 := fun w hw => kt_mem (List.mem_append_right _ hw)
  exact ⟨by rw [K40_len]; decide, by rw [K40_len]; decide, by rw [T2_len]; decide, fun w hw => W45_pw w (m1 w hw), fun w hw => W45_pw w (m2 w hw), fun w hw => W45_ok w (m1 w hw), fun w hw => W45_ok w (m2 w hw), nd3.1, nd3.2.1, fun w hw hk => nd3.2.2 w hk w hw rfl⟩
theorem fil_all {S : List Str} (h : ∀ w ∈ E1, w ∉ S) : (E1.filter fun w => decide (w ∉ S)) = E1 := List.filter_eq_self.mpr fun w hw => decide_eq_true (h w hw)
theorem fresh40 : (E7.filter (nin K40 T2)).take 40 = (E1.filter fun w => decide (w ∉ W45 ++ [])).take 40 := by
  have h1 : (E1.filter fun w => decide (w ∉ K40 ++ T2)) = E1 := fil_all fun w hw z => E1_W45 w hw (kt_mem z)
  have h2 : (E1.filter fun w => decide (w ∉ W45 ++ [])) = E1 := fil_all fun w hw z => E1_W45 w hw (by simpa using z)
  rw [fresh_eq (by decide) (by rw [h1, E1_len]; decide), h1, h2]
section
variable {n : Nat} {s : Dr}
theorem unl_no {d : D} {xs : List D} {lo hi : Int} (h : 2 ≤ n) (hd : Sq d xs) (hx : ∀ x ∈ xs, Simple x) (hl : xs.length ≤ 4000) (hu : unl xs lo hi = false) (s : Dr) : (L n).call 4 [d, .int lo, .int hi] s = .ok (.bl false) s := by
  rw [f4_ok h hd hx hl, hu]
theorem unl_yes {d : D} {xs : List D} {lo hi : Int} (h : 2 ≤ n) (hd : Sq d xs) (hx : ∀ x ∈ xs, Simple x) (hl : xs.length ≤ 4000) (hu : unl xs lo hi = true) (s : Dr) : (L n).call 4 [d, .int lo, .int hi] s = .ok (.bl true) s := by
  rw [f4_ok h hd hx hl, hu]
theorem sim_s (w : Str) : Simple (.str w) := .inl ⟨w, rfl⟩
theorem sim_i (i : Int) : Simple (.int i) := .inr (.inr (.inl ⟨i, rfl⟩))
def badK : List D := [.lst (kl (W45.take 41)), .lst [], .non, .str "ab", .lst [.str "a", .str "a"], .lst [.str "a", .int 5], .lst [.str "A"], .dct [.inr "a"] [.int 1], .lst [.str "abcdefghi"], .lst [.str ""]]
theorem badK_no (h : 2 ≤ n) {d : D} (hd : d ∈ badK) (s : Dr) : (L n).call 4 [d, .int 1, .int 40] s = .ok (.bl false) s := by
  simp only [badK, List.mem_cons, List.not_mem_nil, or_false] at hd
  rcases hd with rfl | rfl | rfl | rfl | rfl | rfl | rfl | rfl | rfl | rfl
  · have hl : (kl (W45.take 41)).length = 41 := by rw [kl, List.length_map, List.length_take, W45_len]; decide
    exact unl_no h (.inl rfl) simple_kl (by rw [hl]; decide) (by unfold unl; rw [hl]; rfl) s
  · exact unl_no h (.inl rfl) (by simp) (by decide) rfl s
  · exact f4_no h (.inl rfl)
  · exact f4_no h (.inr (.inr (.inl ⟨_, rfl⟩)))
  · exact unl_no h (.inl rfl) (by simp [sim_s]) (by simp) (by decide +kernel) s
  · exact unl_no h (.inl rfl) (by simp [sim_s, sim_i]) (by simp) (by decide +kernel) s
  · exact unl_no h (.inl rfl) (by simp [sim_s]) (by simp) (by decide +kernel) s
  · exact f4_no h (.inr (.inr (.inr ⟨_, _, rfl⟩)))
  · exact unl_no h (.inl rfl) (by simp [sim_s]) (by simp) (by decide +kernel) s
  · exact unl_no h (.inl rfl) (by simp [sim_s]) (by simp) (by decide +kernel) s
def badT : List D := [.lst [.str "a", .str "b", .str "d"], .non, .lst [.str "a", .str "a"], .lst [.str "c"], .lst [.int 5], .str "a", .dct [] []]
theorem badT_no (h : 3 ≤ n) {d : D} (hd : d ∈ badT) (s : Dr) : (L n).make 0 [.lst [.str "c"], d] s = .exc 4 [] s := by
  have k1 : ∀ s, (L (n - 1)).call 4 [.lst [.str "c"], .int 1, .int 40] s = .ok (.bl true) s := unl_yes (by omega) (.inl rfl) (by simp [sim_s]) (by simp) (by decide +kernel)
  simp only [badT, List.mem_cons, List.not_mem_nil, or_false] at hd
  rcases hd with rfl | rfl | rfl | rfl | rfl | rfl | rfl
  · exact mk_badT h k1 (unl_no (by omega) (.inl rfl) (by simp [sim_s]) (by simp) (by decide +kernel))
  · exact mk_badT h k1 fun s => f4_no (by omega) (.inl rfl)
  · exact mk_badT h k1 (unl_no (by omega) (.inl rfl) (by simp [sim_s]) (by simp) (by decide +kernel))
  · have k2 : ∀ s, (L (n - 1)).call 4 [.lst [.str "c"], .int 0, .int 2] s = .ok (.bl true) s := unl_yes (by omega) (.inl rfl) (by simp [sim_s]) (by simp) (by decide +kernel)
    rw [mk0 (by omega)]
    unfold runI Co.c5
    have ez : z0 Co.N5 (none :: [D.lst [.str "c"], D.lst [.str "c"]].map some) = ⟨[none, some (.lst [.str "c"]), some (.lst [.str "c"]), none], [], []⟩ := rfl
    rw [ez]
    have e3 : ev Co.P0 (L (n - 1)) (.comp [("word", 3)] (.var 3) (.nm 3) (.var 2) (.cmp .In (.var 3) (.var 1))) [none, some (.lst [.str "c"]), some (.lst [.str "c"]), none] s = .ok (.lst [.str "c"]) s := rfl
    have e4 : cmpR Co.P0 (L (n - 1)) .NotEq (.lst [.str "c"]) (.lst []) s = .ok (.bl true) s := rfl
    generalize (C.comp [(("word" : Str), 3)] (.var 3) (.nm 3) (.var 2) (.cmp .In (.var 3) (.var 1))) = cc at e3 ⊢
    simp [evS, evB, ev, evL, k1 s, k2 s, e3, e4, D.truth, ofO, R.lim, endI]
  · exact mk_badT h k1 (unl_no (by omega) (.inl rfl) (by simp [sim_i]) (by simp) (by decide +kernel))
  · exact mk_badT h k1 fun s => f4_no (by omega) (.inr (.inr (.inl ⟨_, rfl⟩)))
  · exact mk_badT h k1 fun s => f4_no (by omega) (.inr (.inr (.inr ⟨_, _, rfl⟩)))
/-- is_word is told alike by the law's own words -/
theorem words_alike (h : 5 ≤ n) {d : D} (hd : (∃ w, d = .str w) ∨ NoStr d) : ∃ b, (∀ s, (L n).call 13 [d] s = .ok (.bl b) s) ∧ ∀ s, (L n).call 34 [d] s = .ok (.bl b) s := by
  rcases hd with ⟨w, rfl⟩ | hd
  · exact ⟨plainW w, fun s => f13_ok (by omega) fun s => f3_str (by omega), fun s => f34_str (by omega)⟩
  · exact ⟨false, fun s => f13_ok (by omega) fun s => f3_ns (by omega) hd, fun s => f34_no (by omega) hd⟩
abbrev zT (wd y bad : Option D) (es : List D) (th : Option D) : Z := ⟨[some .drw, wd, y, bad, some (.lst es), th], [4], []⟩
theorem loop_T (h : 6 ≤ n) {wd y bad : Option D} : ∀ (ths : List D) (k : Nat) (th : Option D), (∀ d ∈ ths, (∃ w, d = .str w) ∨ NoStr d) → k + ths.length ≤ 1000 → ∃ th',
    loopF (.nm 5) (evS Co.P0 (L n) FU (.seq (.app 4 (.and (.call 29 (.cons (.call 13 (.cons (.var 5) .nil)) (.cons (.call 34 (.cons (.var 5) .nil)) .nil))) (.call 29 (.cons (.callK 13 ["thing"] .nil (.cons (.var 5) .nil)) (.cons (.call 34 (.cons (.var 5) .nil)) .nil))))) .pass)) ths (zT wd y bad (List.replicate k (.bl true)) th) s
      = .ok (.nx (zT wd y bad (List.replicate (k + ths.length) (.bl true)) th')) s
  | [], k, th, _, _ => ⟨th, rfl⟩
  | d :: ths, k, th, hd, hk => by
    rw [List.length_cons] at hk
    obtain ⟨th', e⟩ := loop_T h (wd := wd) (y := y) (bad := bad) ths (k + 1) (some d) (fun x hx => hd x (List.mem_cons_of_mem _ hx)) (by omega)
    refine ⟨th', ?_⟩
    obtain ⟨b, e13, e34⟩ := words_alike (n := n) (by omega) (hd d List.mem_cons_self)
    have es := says (n := n) (by omega) (d := .bl b) (k := 0) .bl (by omega) (by simp [D.nds]) s
    have kp : kwPut Co.P0 13 ["thing"] [d] = some [d] := rfl
    rw [loopF]
    have ep : (zT wd y bad (List.replicate k (.bl true)) th).puts (.nm 5) d = some (zT wd y bad (List.replicate k (.bl true)) (some d)) := rfl
    rw [ep]
    have hk2 : k < LIM := by unfold LIM; omega
    have body : evS Co.P0 (L n) FU (.seq (.app 4 (.and (.call 29 (.cons (.call 13 (.cons (.var 5) .nil)) (.cons (.call 34 (.cons (.var 5) .nil)) .nil))) (.call 29 (.cons (.callK 13 ["thing"] .nil (.cons (.var 5) .nil)) (.cons (.call 34 (.cons (.var 5) .nil)) .nil))))) .pass) (zT wd y bad (List.replicate k (.bl true)) (some d)) s = .ok (.nx (zT wd y bad (List.replicate (k + 1) (.bl true)) (some d))) s := by
      have er : List.replicate k (D.bl true) ++ [.bl true] = List.replicate (k + 1) (.bl true) := List.replicate_succ'.symm
      generalize hX : List.replicate k (D.bl true) = X at *
      have hXl : X.length < LIM := by rw [← hX, List.length_replicate]; exact hk2
      rw [← er]
      simp [evS, ev, evL, mask, maskF, vars, e13, e34, es, kp, D.truth, Z.keep, D.imm, Z.at, Z.upd, hXl]
    simp only [body, R.bind_ok]
    rw [e, List.length_cons, show k + 1 + ths.length = k + (ths.length + 1) by omega]
def thgs : List D := [.str "a", .str "abcdefgh", .str "abcdefghi", .str "", .str "A", .str "a b", .str "a1", .non, .int 5, .lst [.str "a"], .str "zz", .str "start"]
theorem thgs_ok : ∀ d ∈ thgs, (∃ w, d = .str w) ∨ NoStr d := fun d hd => by
  simp only [thgs, List.mem_cons, List.not_mem_nil, or_false] at hd
  rcases hd with rfl | rfl | rfl | rfl | rfl | rfl | rfl | rfl | rfl | rfl | rfl | rfl
  all_goals first
    | exact .inl ⟨_, rfl⟩
    | exact .inr (.inl rfl)
    | exact .inr (.inr (.inl ⟨_, rfl⟩))
    | exact .inr (.inr (.inr (.inr (.inl ⟨_, rfl⟩))))
end
end Pl
end Ah

/-! ## K00C -/
set_option Elab.async false
set_option linter.all false
set_option maxRecDepth 100000
set_option maxHeartbeats 4000000
namespace Ah
open PySem PySem.Spec PyProof.Rows L2
namespace Pl
section
variable {n : Nat}
theorem okA : Ok ["a"] [] := by
  refine ⟨by decide, by decide, by decide, ?_, ?_, ?_, ?_, ?_, ?_, ?_⟩ <;> decide +kernel
theorem f38_ok (h : 9 ≤ n) (s : Dr) : ∃ s', (L n).call 38 [.drw] s = .ok (.bl true) s' := by
  obtain ⟨d1, hd1, s1, e1⟩ := p25 (n := n - 1) (xs := badK) (by omega) (by simp [badK]) (by decide) s
  obtain ⟨d2, hd2, s2, e2⟩ := p25 (n := n - 1) (xs := badT) (by omega) (by simp [badT]) (by decide) s1
  have x1 := fun (t : D) => mk_badK (n := n - 1) (s := s1) (k := d1) (t := t) (by omega) fun s => badK_no (by omega) hd1 s
  have x2 := badT_no (n := n - 1) (by omega) hd2 s2
  refine ⟨s2, ?_⟩
  rw [ca38 (by omega)]
  unfold runF Co.c38
  have ez : z0 Co.N38 ([D.drw].map some) = ⟨[some .drw, none, none, none, none, none], [], []⟩ := rfl
  rw [ez]
  have w45 := f33_ok (n := n - 1) (s := s) (by omega)
  rw [evS_seq (z' := ⟨[some .drw, some (.lst (kl W45)), none, none, none, none], [], []⟩) (s' := s)]
  rotate_left
  · generalize kl W45 = W at w45 ⊢
    simp [evS, ev, evL, w45]
  have t40 : sliD (.lst (kl W45)) none (some 40) = some (.lst (kl K40)) := by
    have : sliD (.lst (kl W45)) none (some ((40 : Nat) : Int)) = some (.lst (kl K40)) := by simp only [sliD, cut_take, take_kl]; rfl
    exact this
  have t41 : sliD (.lst (kl W45)) none (some 41) = some (.lst (kl (W45.take 41))) := by
    have : sliD (.lst (kl W45)) none (some ((41 : Nat) : Int)) = some (.lst (kl (W45.take 41))) := by simp only [sliD, cut_take, take_kl]
    exact this
  have t42 : sliD (.lst (kl W45)) (some 40) (some 42) = some (.lst (kl T2)) := by
    have : sliD (.lst (kl W45)) (some ((40 : Nat) : Int)) (some (((40 : Nat) : Int) + ((2 : Nat) : Int))) = some (.lst (kl T2)) := by
      simp only [sliD]; rw [cut_mid _ _ _ (by rw [kl, List.length_map, W45_len]; decide), drop_kl, take_kl]; rfl
    exact this
  have my := mk_ok (n := n - 1) (s := s) (k := .lst (kl K40)) (t := .lst (kl T2)) (by omega) ok40 (.inl rfl) (.inl rfl)
  rw [evS_seq (z' := ⟨[some .drw, some (.lst (kl W45)), some (Y K40 T2), none, none, none], [], []⟩) (s' := s)]
  rotate_left
  · generalize hy : Y K40 T2 = y at my ⊢
    generalize kl K40 = A at *
    generalize kl T2 = B at *
    generalize kl W45 = W at *
    simp [evS, ev, evL, isNop, t40, t42, my, ofO]
  rw [evS_seq (z' := ⟨[some .drw, some (.lst (kl W45)), some (Y K40 T2), none, none, none], [], []⟩) (s' := s)]
  rotate_left
  · have a1 := at_k (n := n - 1) (s := s) (a := .tup (kl K40)) (b := .tup (kl T2)) (by omega)
    have b1 : bltD .len (.tup (kl K40)) = some (.int 40) := by simp only [bltD, kl, List.length_map, K40_len]; rfl
    have b2 := f20_ok (n := n - 1) (s := s) (by omega) ok40
    have b3 : bltD .len (.tup (evs K40 T2)) = some (.int 48) := by simp only [bltD, evs_len, K40_len, T2_len]; rfl
    have b4 : (L (n - 1)).call 17 [Y K40 T2, .int 40] s = .ok (.tup (kl ((E1.filter fun w => decide (w ∉ W45 ++ [])).take 40))) s := by
      have := f17_ok (n := n - 1) (s := s) (K := K40) (T := T2) (r := 40) (by omega) ok40 (by decide)
      rw [fresh40] at this
      exact this
    have b5 : (L (n - 1)).call 35 [.tup [.lst (kl W45), .lst []], .int 40] s = .ok (.tup (kl ((E1.filter fun w => decide (w ∉ W45 ++ [])).take 40))) s := f35_ok (n := n - 1) (s := s) (K := W45) (T := []) (r := 40) (by omega) (by rw [List.append_nil, W45_len]; decide)
    have pg : PyG (.tup (kl ((E1.filter fun w => decide (w ∉ W45 ++ [])).take 40))) 1 := pyg_tl fun w hw => E1_ok w (List.mem_filter.mp (List.mem_of_mem_take hw)).1
    generalize kl ((E1.filter fun w => decide (w ∉ W45 ++ [])).take 40) = F at *
    have c1 : cmpR Co.P0 (L (n - 1)) .NotEq (.tup F) (.tup F) s = .ok (.bl false) s := by
      rw [cmpR_of rfl]; simp only [cmpD, pg.eq (by decide)]; rfl
    have ar : ∀ a b : D, Y K40 T2 = .ins 0 [.tup (kl K40), .tup (kl T2)] := fun _ _ => rfl
    generalize hE : evs K40 T2 = ee at *
    have b4 : (L (n - 1)).call 17 [.ins 0 [.tup (kl K40), .tup (kl T2)], .int 40] s = _ := b4
    have b2 : (L (n - 1)).call 20 [.ins 0 [.tup (kl K40), .tup (kl T2)]] s = _ := b2
    show evS Co.P0 (L (n - 1)) FU _ ⟨[some .drw, some (.lst (kl W45)), some (.ins 0 [.tup (kl K40), .tup (kl T2)]), none, none, none], [], []⟩ s = .ok (.nx ⟨[some .drw, some (.lst (kl W45)), some (.ins 0 [.tup (kl K40), .tup (kl T2)]), none, none, none], [], []⟩) s
    generalize kl K40 = A at *
    generalize kl T2 = B at *
    generalize kl W45 = W at *
    simp [evS, evB, ev, evL, a1, b1, b2, b3, b4, b5, c1, ne_int, D.truth, ofO, R.lim, show (0 + 1 + 1 : Nat) ≤ LIM from by decide]
  rw [evS_seq (z' := ⟨[some .drw, some (.lst (kl W45)), some (Y K40 T2), some d1, none, none], [], []⟩) (s' := s1)]
  rotate_left
  · have e1 : (L (n - 1)).call 25 [.drw, .lst [.lst (kl (W45.take 41)), .lst [], .non, .str "ab", .lst [.str "a", .str "a"], .lst [.str "a", .int 5], .lst [.str "A"], .dct [.inr "a"] [.int 1], .lst [.str "abcdefghi"], .lst [.str ""]]] s = .ok d1 s1 := e1
    generalize kl (W45.take 41) = A at *
    generalize kl W45 = W at *
    simp [evS, ev, evL, isNop, t41, e1, ofO, R.lim, show (0 + 1 : Nat) ≤ LIM from by decide, show (0 + 1 + 1 : Nat) ≤ LIM from by decide, show (0 + 1 + 1 + 1 + 1 + 1 + 1 + 1 + 1 + 1 + 1 : Nat) ≤ LIM from by decide]
  rw [evS_seq (z' := zT (some (.lst (kl W45))) (some (Y K40 T2)) (some d1) [.bl true, .bl true] none) (s' := s1)]
  rotate_left
  · have kp : kwPut Co.P0 5 [] [.non, d1] = some [.non, d1, .tup []] := rfl
    generalize some (D.lst (kl W45)) = a1
    generalize some (Y K40 T2) = a2
    simp [evS, ev, evL, x1, kp, cls0, D.ty, isiL, ofO, R.lim, show (0 + 1 + 1 : Nat) ≤ LIM from by decide, Z.keep, Z.store, Z.setO, Ah.D.immO, D.immL, D.imm]
  generalize some (D.lst (kl W45)) = a1
  generalize some (Y K40 T2) = a2
  rw [evS_seq (z' := zT a1 a2 (some d2) [.bl true, .bl true] none) (s' := s2)]
  rotate_left
  · have e2 : (L (n - 1)).call 25 [.drw, .lst [.lst [.str "a", .str "b", .str "d"], .non, .lst [.str "a", .str "a"], .lst [.str "c"], .lst [.int 5], .str "a", .dct [] []]] s1 = .ok d2 s2 := e2
    have hl : (0 + 1 : Nat) ≤ LIM ∧ (0 + 1 + 1 : Nat) ≤ LIM ∧ (0 + 1 + 1 + 1 : Nat) ≤ LIM ∧ (0 + 1 + 1 + 1 + 1 + 1 + 1 + 1 : Nat) ≤ LIM := by decide
    cases hq : d2.imm <;> simp [evS, ev, evL, mask, maskF, vars, e2, ofO, R.lim, hl.1, hl.2.1, hl.2.2.1, hl.2.2.2, Z.keep, freeze, Z.puts, Tg.put, Tg.ixs, hq]
  rw [evS_seq (z' := zT a1 a2 (some d2) [.bl true, .bl true, .bl true] none) (s' := s2)]
  rotate_left
  · simp [evS, ev, evL, mask, maskF, vars, x2, D.ty, isiL, ofO, R.lim, show (0 + 1 : Nat) ≤ LIM from by decide, Z.keep, D.imm, Z.at, Z.upd, show (2 : Nat) < LIM from by decide]
  obtain ⟨th', e3⟩ := loop_T (n := n - 1) (s := s2) (by omega) (wd := a1) (y := a2) (bad := some d2) thgs 3 none thgs_ok (by decide)
  rw [evS_seq (z' := zT a1 a2 (some d2) (List.replicate 15 (.bl true)) th') (s' := s2)]
  rotate_left
  · rw [evS]
    have hi : evI Co.P0 (L (n - 1)) (.lst (.cons (.str "a") (.cons (.str "abcdefgh") (.cons (.str "abcdefghi") (.cons (.str "") (.cons (.str "A") (.cons (.str "a b") (.cons (.str "a1") (.cons .non (.cons (.int 5) (.cons (.lst (.cons (.str "a") .nil)) (.cons (.str "zz") (.cons (.str "start") .nil))))))))))))) (mask (zT a1 a2 (some d2) [.bl true, .bl true, .bl true] none) []) s2 = .ok thgs s2 := rfl
    show R.bind (evI Co.P0 (L (n - 1)) _ (mask (zT a1 a2 (some d2) [.bl true, .bl true, .bl true] none) []) s2) _ = _
    rw [hi]
    exact e3
  have c2 : cmpR Co.P0 (L (n - 1)) .NotIn (.bl false) (.lst (List.replicate 15 (.bl true))) s2 = .ok (.bl true) s2 := rfl
  have kp : kwPut Co.P0 5 [] [.non, .lst [.str "a"]] = some [.non, .lst [.str "a"], .tup []] := rfl
  have kp2 : kwPut Co.P0 5 ["kinds"] [.non, .lst [.str "a"]] = some [.non, .lst [.str "a"], .tup []] := rfl
  have mA := mk_ok (n := n - 1) (s := s2) (k := .lst [.str "a"]) (t := .tup []) (by omega) okA (.inl rfl) (.inr rfl)
  have aA := at_t (n := n - 1) (s := s2) (a := .tup (kl ["a"])) (b := .tup (kl [])) (by omega)
  have yA := (cmp_yy (n := n - 1) (s := s2) (K := ["a"]) (T := []) (K' := ["a"]) (T' := []) (by omega)).1
  have tA : decide ((["a"] : List Str) = (["a"] : List Str) ∧ ([] : List Str) = []) = true := decide_eq_true ⟨rfl, rfl⟩
  rw [tA] at yA
  have c0 : cmpR Co.P0 (L (n - 1)) .Eq (.tup []) (.tup []) s2 = .ok (.bl true) s2 := rfl
  have aA : attR Co.P0 (L (n - 1)) "tools" (Y ["a"] []) s2 = .ok (.tup []) s2 := aA
  generalize List.replicate 15 (D.bl true) = es at *
  generalize Y ["a"] [] = ya at *
  simp [evS, ev, evL, c2, kp, kp2, mA, aA, yA, c0, cls0, D.truth, ofO, R.lim, show (0 + 1 : Nat) ≤ LIM from by decide, endF]
end
end Pl
end Ah

/-! ## K00D -/
set_option Elab.async false
set_option linter.all false
set_option maxRecDepth 100000
set_option maxHeartbeats 4000000
namespace Ah
open PySem PySem.Spec PyProof.Rows L2
namespace Pl
theorem imm_kl : ∀ ws : List Str, D.immL (kl ws) = true
  | [] => rfl
  | w :: ws => by
    have := imm_kl ws
    simp only [kl, List.map_cons, D.immL, D.imm, Bool.true_and] at *
    exact this
theorem imm_Y (K T : List Str) : (Y K T).imm = true := by
  simp only [D.imm, D.immL, imm_kl, Bool.and_self, Bool.and_true]
theorem nds_kl : ∀ ws : List Str, D.ndsL (kl ws) = ws.length
  | [] => rfl
  | w :: ws => by
    have := nds_kl ws
    simp only [kl, List.map_cons, D.ndsL, D.nds, List.length_cons] at *
    omega
def prs (K T : List Str) : List (List Str × List Str) := [(K ++ [("late" : Str)], T), (K, []), (K.reverse, T), (K ++ T, []), (K, T.reverse)]
theorem ok_pairs {K T : List Str} (h : Told K T) : ∀ p ∈ prs K T, Ok p.1 p.2 := by
  have o := h.ok
  have hk4 := h.k4
  have ht := o.t2
  have hlk : ("late" : Str) ∉ K := fun z => late_no (h.mem _ (List.mem_append_left _ z))
  have hlt : ("late" : Str) ∉ T := fun z => late_no (h.mem _ (List.mem_append_right _ z))
  have lp : plainW "late" = true ∧ sOk "late" = true := by decide +kernel
  have nd : (K ++ T).Nodup := List.nodup_append.mpr ⟨o.nk, o.nt, fun a ha b hb e => o.dj b hb (e ▸ ha)⟩
  intro p hp
  simp only [prs, List.mem_cons, List.not_mem_nil, or_false] at hp
  have k1 := o.k1
  rcases hp with rfl | rfl | rfl | rfl | rfl
  · refine ⟨by simp, by simp; omega, o.t2, fun w hw => ?_, o.pt, fun w hw => ?_, o.st, List.nodup_append.mpr ⟨o.nk, by simp, fun a ha b hb e => ?_⟩, o.nt, fun w hw z => ?_⟩
    · rcases List.mem_append.mp hw with hw | hw
      · exact o.pk w hw
      · rw [List.mem_singleton.mp hw]; exact lp.1
    · rcases List.mem_append.mp hw with hw | hw
      · exact o.sk w hw
      · rw [List.mem_singleton.mp hw]; exact lp.2
    · rw [List.mem_singleton.mp hb] at e; exact hlk (e ▸ ha)
    · rcases List.mem_append.mp z with z | z
      · exact o.dj w hw z
      · rw [List.mem_singleton.mp z] at hw; exact hlt hw
  · exact ⟨o.k1, o.k2, by simp, o.pk, by simp, o.sk, by simp, o.nk, by simp, by simp⟩
  · exact ⟨by simpa using o.k1, by simpa using o.k2, o.t2, fun w hw => o.pk w (by simpa using hw), o.pt, fun w hw => o.sk w (by simpa using hw), o.st, (List.reverse_perm K).nodup_iff.mpr o.nk, o.nt, fun w hw z => o.dj w hw (by simpa using z)⟩
  · refine ⟨by simp; omega, by simp; omega, by simp, fun w hw => (List.mem_append.mp hw).elim (o.pk w) (o.pt w), by simp, fun w hw => (List.mem_append.mp hw).elim (o.sk w) (o.st w), by simp, nd, by simp, by simp⟩
  · exact ⟨o.k1, o.k2, by simpa using o.t2, o.pk, fun w hw => o.pt w (by simpa using hw), o.sk, fun w hw => o.st w (by simpa using hw), o.nk, (List.reverse_perm T).nodup_iff.mpr o.nt, fun w hw => o.dj w (by simpa using hw)⟩
theorem pyg_evs {K T : List Str} (o : Ok K T) : ∀ d ∈ evs K T, PyG d 1 := fun d hd => by
  have two : ∀ (a : Str) (d : D), sOk a = true → PyG d 0 → PyG (ev2 a d) 1 := fun a d h1 h2 => .tup fun x hx => by
    simp only [List.mem_cons, List.not_mem_nil, or_false] at hx
    rcases hx with rfl | rfl
    · exact .str h1
    · exact h2
  rw [mem_evs] at hd
  rcases hd with ⟨k, hk, rfl⟩ | (rfl | rfl | rfl | rfl) | ⟨k, hk, rfl⟩ | ⟨k, hk, rfl⟩
  · exact two _ _ s_ok.1 (.str (o.sk k hk))
  · exact two _ _ s_ok.2.1 .int
  · exact two _ _ s_ok.2.1 .int
  · exact two _ _ s_ok.2.1 .int
  · exact two _ _ s_ok.2.1 .int
  · exact two _ _ s_ok.2.2.1 (.str (o.st k hk))
  · exact two _ _ s_ok.2.2.2.1 (.str (o.st k hk))
theorem nds_le : ∀ (ds : List D) (m : Nat), (∀ d ∈ ds, d.nds ≤ m) → D.ndsL ds ≤ ds.length * m
  | [], m, _ => by simp [D.ndsL]
  | d :: ds, m, h => by
    have h1 := h d List.mem_cons_self
    have h2 := nds_le ds m fun x hx => h x (List.mem_cons_of_mem _ hx)
    rw [List.length_cons, Nat.add_mul, Nat.one_mul]
    simp only [D.ndsL]; omega
theorem nds_evs {K T : List Str} (h : Told K T) : D.ndsL (evs K T) ≤ 36 := by
  have h1 := nds_le (evs K T) 3 fun d hd => by
    rw [mem_evs] at hd
    rcases hd with ⟨k, hk, rfl⟩ | (rfl | rfl | rfl | rfl) | ⟨k, hk, rfl⟩ | ⟨k, hk, rfl⟩ <;> simp [ev2, D.nds, D.ndsL]
  have h2 := h.k4
  have h3 := h.ok.t2
  rw [evs_len] at h1
  omega
section
variable {n : Nat} {s : Dr} {K T : List Str}
abbrev zW (K T : List Str) (y ot od th k6 t7 ev ma du : Option D) (ow : List Nat) : Z := ⟨[some .drw, some (Tl K T), y, ot, od, th, k6, t7, ev, ma, du, none, none, none], ow, []⟩
/-- no other yard is told otherwise -/
theorem others_ev {K T : List Str} (ht : Told K T) (h : 6 ≤ n) {env : En} (h2 : (wipeE env [12])[2]? = some (some (Y K T))) (h1 : (wipeE env [12])[1]? = some (some (Tl K T))) (hl : 12 < (wipeE env [12]).length)
    (h3 : env[3]? = some (some (.lst ((prs K T).map fun p => Tl p.1 p.2)))) :
    ev Co.P0 (L n) (.comp [("other", 12)] (.int 1) (.nm 12) (.var 3) (.cmp .NotEq (.cmp .Eq (.var 2) (.call 31 (.cons (.var 12) .nil))) (.cmp .Eq (.var 12) (.tup (.cons (.idx (.var 1) (.int 0)) (.cons (.idx (.var 1) (.int 1)) .nil)))))) env s = .ok (.lst []) s := by
  have e := ev_cf (P := Co.P0) (cl := L n) (own := [("other", 12)]) (e := .int 1) (it := .var 3) (c := .cmp .NotEq (.cmp .Eq (.var 2) (.call 31 (.cons (.var 12) .nil))) (.cmp .Eq (.var 12) (.tup (.cons (.idx (.var 1) (.int 0)) (.cons (.idx (.var 1) (.int 1)) .nil))))) (i := 12) (env := env) (s := s)
    (x := .lst ((prs K T).map fun p => Tl p.1 p.2)) (xs := (prs K T).map fun p => Tl p.1 p.2) (g := fun _ => .int 1) (p := fun _ => false) rfl (by simp [ev, h3]) rfl (by rw [List.length_map]; show 5 ≤ LIM; decide)
    (fun y hy => by
      obtain ⟨⟨a, b⟩, hp, rfl⟩ := List.mem_map.mp hy
      have o := ok_pairs ht _ hp
      refine ⟨.bl false, ?_, rfl⟩
      show ev Co.P0 (L n) _ ((wipeE env [12]).set 12 (some (Tl a b))) s = _
      have g1 : ((wipeE env [12]).set 12 (some (Tl a b)))[1]? = some (some (Tl K T)) := by rw [List.getElem?_set_ne (by decide)]; exact h1
      have g2 : ((wipeE env [12]).set 12 (some (Tl a b)))[2]? = some (some (Y K T)) := by rw [List.getElem?_set_ne (by decide)]; exact h2
      have g3 : ((wipeE env [12]).set 12 (some (Tl a b)))[12]? = some (some (Tl a b)) := List.getElem?_set_self hl
      generalize (wipeE env [12]).set 12 (some (Tl a b)) = en at g1 g2 g3 ⊢
      have e31 := f31_ok (n := n) (s := s) (K := a) (T := b) (d := Y a b) (by omega) fun s => mk_ok (by omega) o (.inl rfl) (.inl rfl)
      have c1 := (cmp_yy (n := n) (s := s) (K := K) (T := T) (K' := a) (T' := b) (by omega)).1
      have c2 : cmpR Co.P0 (L n) .Eq (Tl a b) (.tup [.lst (kl K), .lst (kl T)]) s = .ok (.bl (decide (a = K ∧ b = T))) s := by
        rw [cmpR_of rfl]; simp only [cmpD, eq_tl]; rfl
      have c3 : (decide (a = K ∧ b = T)) = decide (K = a ∧ T = b) := by
        congr 1
        exact propext ⟨fun z => ⟨z.1.symm, z.2.symm⟩, fun z => ⟨z.1.symm, z.2.symm⟩⟩
      rw [c3] at c2
      generalize decide (K = a ∧ T = b) = q at c1 c2
      have c4 : cmpR Co.P0 (L n) .NotEq (.bl q) (.bl q) s = .ok (.bl false) s := by cases q <;> rfl
      generalize hta : Tl a b = ta at *
      generalize Y a b = ya at *
      generalize hy1 : Y K T = yk at *
      simp [ev, evL, g1, g2, g3, e31, tl0, tl1, ofO, R.lim, show (0 + 1 + 1 : Nat) ≤ LIM from by decide, c1, c2, c4])
    (fun y hy h => nomatch h)
  rw [e]
  simp
/-- one thing asked -/
theorem thing_step (ht : Told K T) (h : 6 ≤ n) {y ot odd k6 t7 ma du th0 : Option D} {ow : List Nat} {thing : D} {q : Bool} (hu : thing ∈ U) (hq : q = true ↔ thing ∈ evs K T) (e19 : ∀ m s, 4 ≤ m → (L m).call 19 [Y K T, thing] s = .ok (.bl q) s) (how : ow = [7, 6]) :
    evS Co.P0 (L n) FU (.seq (.asg (.nm 10) (.cmp .In (.blt .repr (.var 5)) (.comp [("event", 13)] (.blt .repr (.var 13)) (.nm 13) (.var 8) .nop)))
  (.seq (.ife (.not (.call 29 (.cons (.lst (.cons (.call 21 (.cons (.var 2) (.cons (.var 5) .nil))) (.cons (.callK 21 ["thing", "yard"] .nil (.cons (.var 5) (.cons (.var 2) .nil))) .nil))) (.cons (.lst (.cons (.var 10) (.cons (.var 10) .nil))) .nil))))
  (.seq (.ret (.bl false))
  .pass)
  .pass)
  .pass)) (zW K T (some (Y K T)) ot odd (some thing) k6 t7 (some (.lst (evs K T))) ma du ow) s = .ok (.nx (zW K T (some (Y K T)) ot odd (some thing) k6 t7 (some (.lst (evs K T))) ma (some (.bl q)) ow)) s := by
  subst how
  have ed := due_ev (cl := L n) (s := s) (env := [some .drw, some (Tl K T), some (Y K T), ot, odd, some thing, none, none, some (.lst (evs K T)), ma, du, none, none, none]) ht hu rfl rfl rfl (by show 13 < 14; decide) hq
  rw [evS_seq (z' := zW K T (some (Y K T)) ot odd (some thing) k6 t7 (some (.lst (evs K T))) ma (some (.bl q)) [7, 6]) (s' := s)]
  rotate_left
  · have hv : mask (zW K T (some (Y K T)) ot odd (some thing) k6 t7 (some (.lst (evs K T))) ma du [7, 6]) (vars (.cmp .In (.blt .repr (.var 5)) (.comp [("event", 13)] (.blt .repr (.var 13)) (.nm 13) (.var 8) .nop))) = [some .drw, some (Tl K T), some (Y K T), ot, odd, some thing, none, none, some (.lst (evs K T)), ma, du, none, none, none] := by simp [mask, maskF, vars]
    rw [evS, hv, ed]
    simp [Z.keep, D.imm, Z.puts, Tg.put, Tg.ixs]
  have e21 := f21_ok (n := n) (s := s) (K := K) (T := T) (d := thing) (b := q) (by omega) fun s => e19 _ s (by omega)
  have kp : kwPut Co.P0 21 ["thing", "yard"] [thing, Y K T] = some [Y K T, thing] := rfl
  have es := says (n := n) (by omega) (d := .lst [.bl q, .bl q]) (k := 1) (.lst (k := 0) fun x hx => by
    simp only [List.mem_cons, List.not_mem_nil, or_false] at hx
    rcases hx with rfl | rfl <;> exact .bl) (by omega) (by simp [D.nds, D.ndsL]) s
  generalize hy : Y K T = yk at *
  simp [zW, evS, evB, ev, evL, e21, kp, es, D.truth, ofO, R.lim, show (0 + 1 + 1 : Nat) ≤ LIM from by decide]
end
end Pl
end Ah

/-! ## K00E -/
set_option Elab.async false
set_option linter.all false
set_option maxRecDepth 100000
set_option maxHeartbeats 4000000
namespace Ah
open PySem PySem.Spec PyProof.Rows L2
namespace Pl
section
variable {n : Nat} {K T : List Str}
def cThing : Sx := (.seq (.asg (.nm 10) (.cmp .In (.blt .repr (.var 5)) (.comp [("event", 13)] (.blt .repr (.var 13)) (.nm 13) (.var 8) .nop)))
  (.seq (.ife (.not (.call 29 (.cons (.lst (.cons (.call 21 (.cons (.var 2) (.cons (.var 5) .nil))) (.cons (.callK 21 ["thing", "yard"] .nil (.cons (.var 5) (.cons (.var 2) .nil))) .nil))) (.cons (.lst (.cons (.var 10) (.cons (.var 10) .nil))) .nil))))
  (.seq (.ret (.bl false))
  .pass)
  .pass)
  .pass))
theorem things_loop (ht : Told K T) (h : 6 ≤ n) {ot odd k6 t7 ma : Option D} : ∀ (ths : List D) (th du : Option D) (s : Dr), (∀ d ∈ ths, d ∈ U ∧ ∃ q : Bool, (q = true ↔ d ∈ evs K T) ∧ ∀ m s, 4 ≤ m → (L m).call 19 [Y K T, d] s = .ok (.bl q) s) →
    ∃ th' du', loopF (.nm 5) (evS Co.P0 (L n) FU cThing) ths (zW K T (some (Y K T)) ot odd th k6 t7 (some (.lst (evs K T))) ma du [7, 6]) s = .ok (.nx (zW K T (some (Y K T)) ot odd th' k6 t7 (some (.lst (evs K T))) ma du' [7, 6])) s
  | [], th, du, s, _ => ⟨th, du, rfl⟩
  | d :: ths, th, du, s, hd => by
    obtain ⟨hu, q, hq, e19⟩ := hd d List.mem_cons_self
    obtain ⟨th', du', e⟩ := things_loop ht h (ot := ot) (odd := odd) (k6 := k6) (t7 := t7) (ma := ma) ths (some d) (some (.bl q)) s fun x hx => hd x (List.mem_cons_of_mem _ hx)
    refine ⟨th', du', ?_⟩
    have st := thing_step (n := n) (s := s) ht h (ot := ot) (odd := odd) (k6 := k6) (t7 := t7) (ma := ma) (du := du) (y := none) (th0 := none) hu hq e19 rfl
    rw [loopF]
    have ep : (zW K T (some (Y K T)) ot odd th k6 t7 (some (.lst (evs K T))) ma du [7, 6]).puts (.nm 5) d = some (zW K T (some (Y K T)) ot odd (some d) k6 t7 (some (.lst (evs K T))) ma du [7, 6]) := rfl
    rw [ep]
    have st : evS Co.P0 (L n) FU cThing (zW K T (some (Y K T)) ot odd (some d) k6 t7 (some (.lst (evs K T))) ma du [7, 6]) s = _ := st
    simp only [st, R.bind_ok]
    exact e
theorem f36_ok (h : 10 ≤ n) (s : Dr) : ∃ s', (L n).call 36 [.drw] s = .ok (.bl true) s' := by
  obtain ⟨K, T, s1, ht, e1⟩ := f30_ok (n := n - 1) (by omega) s
  have ok := ht.ok
  have lK : K.length ≤ 4 := ht.k4
  have lT : T.length ≤ 2 := ok.t2
  obtain ⟨k0, Kr, hK⟩ : ∃ k0 Kr, K = k0 :: Kr := by
    have := ok.k1
    cases hk : K with
    | nil => rw [hk] at this; simp at this
    | cons a l => exact ⟨a, l, rfl⟩
  have hk0 : k0 ∈ K := by rw [hK]; exact List.mem_cons_self
  obtain ⟨yd, hyd, s2, e2⟩ := p25 (n := n - 1) (xs := [Y K T, Y K T]) (by omega) (by simp) (by simp only [List.length_cons, List.length_nil]; decide) s1
  have hyd : yd = Y K T := by simpa using hyd
  subst hyd
  obtain ⟨r, s3, e3, r0, r1⟩ := t24 (n := n - 1) (by omega) 41 s2 (by decide) (by decide)
  obtain ⟨m, rfl⟩ : ∃ m : Nat, r = (m : Int) := ⟨r.toNat, by omega⟩
  have hm : m ≤ 40 := by omega
  have hev0 : evs K T ≠ [] := by
    intro z
    have := evs_len (K := K) (T := T)
    rw [z] at this; simp at this; omega
  have hod0 : od k0 T ≠ [] := by simp [od, odB]
  have hodl : (od k0 T).length < 1073741824 := by simp [od, odB]; omega
  obtain ⟨t1, ht1, s4, e4⟩ := p25 (n := n - 1) (xs := evs K T) (by omega) hev0 (by rw [evs_len]; omega) s3
  obtain ⟨t2, ht2, s5, e5⟩ := p25 (n := n - 1) (xs := od k0 T) (by omega) hod0 hodl s4
  obtain ⟨t3, ht3, s6, e6⟩ := p25 (n := n - 1) (xs := od k0 T) (by omega) hod0 hodl s5
  obtain ⟨s7, e7⟩ := f37_ok (n := n - 1) (by omega) ht s6
  refine ⟨s7, ?_⟩
  have qy : ∀ d ∈ evs K T, d ∈ U ∧ ∃ q : Bool, (q = true ↔ d ∈ evs K T) ∧ ∀ m s, 4 ≤ m → (L m).call 19 [Y K T, d] s = .ok (.bl q) s := fun d hd => ⟨evs_U ht d hd, true, by simp [hd], fun m s hm => ev_yes ok hm s d hd⟩
  have qn : ∀ d ∈ od k0 T, d ∈ U ∧ ∃ q : Bool, (q = true ↔ d ∈ evs K T) ∧ ∀ m s, 4 ≤ m → (L m).call 19 [Y K T, d] s = .ok (.bl q) s := fun d hd => ⟨od_U ht hk0 d hd, false, by simp [od_no ht hk0 d hd], fun m s hm => od_ev ht hk0 hm s d hd⟩
  rw [ca36 (by omega)]
  unfold runF Co.c36
  have ez : z0 Co.N36 ([D.drw].map some) = ⟨[some .drw, none, none, none, none, none, none, none, none, none, none, none, none, none], [], []⟩ := rfl
  rw [ez]
  -- told
  rw [evS_seq (z' := zW K T none none none none none none none none none []) (s' := s1)]
  rotate_left
  · generalize hta : Tl K T = ta at *
    simp [zW, hta, evS, ev, evL, e1]
  -- kinds, tools
  rw [evS_seq (z' := zW K T none none none none (some (.lst (kl K))) (some (.lst (kl T))) none none none [7, 6]) (s' := s1)]
  rotate_left
  · have b1 : bltD .list (.lst (kl K)) = some (.lst (kl K)) := rfl
    have b2 : bltD .list (.lst (kl T)) = some (.lst (kl T)) := rfl
    simp [zW, evS, ev, tl0, tl1, b1, b2, ofO, D.isL, Z.store, Z.setO]
  -- yard
  have my := mk_ok (n := n - 1) (s := s1) (k := .lst (kl K)) (t := .lst (kl T)) (by omega) ok (.inl rfl) (.inl rfl)
  have my2 := mk_ok (n := n - 1) (s := s1) (k := .tup (kl K)) (t := .tup (kl T)) (by omega) ok (.inr rfl) (.inr rfl)
  rw [evS_seq (z' := zW K T (some (Y K T)) none none none (some (.lst (kl K))) (some (.lst (kl T))) none none none [7, 6]) (s' := s2)]
  rotate_left
  · have b1 : bltD .tuple (.lst (kl K)) = some (.tup (kl K)) := rfl
    have b2 : bltD .tuple (.lst (kl T)) = some (.tup (kl T)) := rfl
    have kp : kwPut Co.P0 5 ["tools", "kinds"] [.non, .tup (kl T), .tup (kl K)] = some [.non, .tup (kl K), .tup (kl T)] := rfl
    have iy := imm_Y K T
    generalize hta : Tl K T = ta at *
    generalize Y K T = y at *
    generalize kl K = A at *
    generalize kl T = B at *
    simp [zW, hta, evS, ev, evL, mask, maskF, vars, my, my2, b1, b2, kp, cls0, ofO, R.lim, show (0 + 1 + 1 : Nat) ≤ LIM from by decide, e2, Z.keep, iy, Z.puts, Tg.put, Tg.ixs]
  -- late, later
  rw [evS_seq (z' := zW K T (some (Y K T)) none none none (some (.lst (kl K ++ [.str "late"]))) (some (.lst (kl T))) none none none [7, 6]) (s' := s2)]
  rotate_left
  · have hl : (kl K).length < LIM := by rw [kl, List.length_map]; unfold LIM; omega
    generalize kl K = A at *
    generalize kl T = B at *
    simp [zW, evS, ev, mask, maskF, vars, Z.keep, D.imm, Z.at, Z.upd, hl]
  rw [evS_seq (z' := zW K T (some (Y K T)) none none none (some (.lst (kl K ++ [.str "late"]))) (some (.lst (kl T ++ [.str "later"]))) none none none [7, 6]) (s' := s2)]
  rotate_left
  · have hl : (kl T).length < LIM := by rw [kl, List.length_map]; unfold LIM; omega
    generalize kl K ++ [D.str "late"] = A at *
    generalize kl T = B at *
    simp [zW, evS, ev, mask, maskF, vars, Z.keep, D.imm, Z.at, Z.upd, hl]
  generalize some (D.lst (kl K ++ [.str "late"])) = k6
  generalize some (D.lst (kl T ++ [.str "later"])) = t7
  -- the yard keeps its words
  rw [evS_seq (z' := zW K T (some (Y K T)) none none none k6 t7 none none none [7, 6]) (s' := s2)]
  rotate_left
  · have a1 := at_k (n := n - 1) (s := s2) (a := .tup (kl K)) (b := .tup (kl T)) (by omega)
    have a2 := at_t (n := n - 1) (s := s2) (a := .tup (kl K)) (b := .tup (kl T)) (by omega)
    have b1 : bltD .tuple (.lst (kl K)) = some (.tup (kl K)) := rfl
    have b2 : bltD .tuple (.lst (kl T)) = some (.tup (kl T)) := rfl
    have es := says (n := n - 1) (by omega) (d := .lst [.tup (kl K), .tup (kl T)]) (k := 2) (.lst fun x hx => by
      simp only [List.mem_cons, List.not_mem_nil, or_false] at hx
      rcases hx with rfl | rfl
      · exact pyg_tl ok.sk
      · exact pyg_tl ok.st) (by omega) (by simp only [D.nds, D.ndsL, nds_kl]; omega) s2
    have e31 := f31_ok (n := n - 1) (s := s2) (K := K) (T := T) (d := Y K T) (by omega) fun s => mk_ok (by omega) ok (.inl rfl) (.inl rfl)
    have c1 := (cmp_yy (n := n - 1) (s := s2) (K := K) (T := T) (K' := K) (T' := T) (by omega)).2
    rw [decide_eq_true (show K = K ∧ T = T from ⟨rfl, rfl⟩)] at c1
    have e31 : (L (n - 1)).call 31 [.tup [.lst (kl K), .lst (kl T)]] s2 = .ok (.ins 0 [.tup (kl K), .tup (kl T)]) s2 := e31
    have c1 : cmpR Co.P0 (L (n - 1)) .NotEq (.ins 0 [.tup (kl K), .tup (kl T)]) (.ins 0 [.tup (kl K), .tup (kl T)]) s2 = .ok (.bl (!true)) s2 := c1
    simp [zW, evS, evB, ev, evL, a1, a2, b1, b2, tl0, tl1, es, e31, c1, D.truth, ofO, R.lim, show (0 + 1 + 1 : Nat) ≤ LIM from by decide]
  -- others
  rw [evS_seq (z' := zW K T (some (Y K T)) (some (.lst ((prs K T).map fun p => Tl p.1 p.2))) none none k6 t7 none none none [7, 6]) (s' := s2)]
  rotate_left
  · have b1 : opD .Add (.lst (kl K)) (.lst [.str "late"]) = some (.lst (kl (K ++ [("late" : Str)]))) := add_kl (b := [("late" : Str)]) (by simp; unfold LIM; omega)
    have b2 : opD .Add (.lst (kl K)) (.lst (kl T)) = some (.lst (kl (K ++ T))) := add_kl (by unfold LIM; omega)
    have rk : (kl K).reverse = kl K.reverse := (List.map_reverse ..).symm
    have rt : (kl T).reverse = kl T.reverse := (List.map_reverse ..).symm
    have hv : mask (zW K T (some (Y K T)) none none none k6 t7 none none none [7, 6]) (vars (.lst (.cons (.tup (.cons (.bin .Add (.idx (.var 1) (.int 0)) (.lst (.cons (.str "late") .nil))) (.cons (.idx (.var 1) (.int 1)) .nil))) (.cons (.tup (.cons (.idx (.var 1) (.int 0)) (.cons (.lst .nil) .nil))) (.cons (.tup (.cons (.rev (.idx (.var 1) (.int 0))) (.cons (.idx (.var 1) (.int 1)) .nil))) (.cons (.tup (.cons (.bin .Add (.idx (.var 1) (.int 0)) (.idx (.var 1) (.int 1))) (.cons (.lst .nil) .nil))) (.cons (.tup (.cons (.idx (.var 1) (.int 0)) (.cons (.rev (.idx (.var 1) (.int 1))) .nil))) .nil))))))) = [some .drw, some (Tl K T), some (Y K T), none, none, none, none, none, none, none, none, none, none, none] := by simp [mask, maskF, vars]
    have hd : ev Co.P0 (L (n - 1)) (.lst (.cons (.tup (.cons (.bin .Add (.idx (.var 1) (.int 0)) (.lst (.cons (.str "late") .nil))) (.cons (.idx (.var 1) (.int 1)) .nil))) (.cons (.tup (.cons (.idx (.var 1) (.int 0)) (.cons (.lst .nil) .nil))) (.cons (.tup (.cons (.rev (.idx (.var 1) (.int 0))) (.cons (.idx (.var 1) (.int 1)) .nil))) (.cons (.tup (.cons (.bin .Add (.idx (.var 1) (.int 0)) (.idx (.var 1) (.int 1))) (.cons (.lst .nil) .nil))) (.cons (.tup (.cons (.idx (.var 1) (.int 0)) (.cons (.rev (.idx (.var 1) (.int 1))) .nil))) .nil)))))) [some .drw, some (Tl K T), some (Y K T), none, none, none, none, none, none, none, none, none, none, none] s2 = .ok (.lst [.tup [.lst (kl (K ++ [("late" : Str)])), .lst (kl T)], .tup [.lst (kl K), .lst []], .tup [.lst (kl K.reverse), .lst (kl T)], .tup [.lst (kl (K ++ T)), .lst []], .tup [.lst (kl K), .lst (kl T.reverse)]]) s2 := by
      rw [← rk, ← rt]
      generalize kl (K ++ [("late" : Str)]) = X1 at *
      generalize kl (K ++ T) = X2 at *
      generalize hy : Y K T = y
      simp [ev, evL, tl0, tl1, b1, b2, ofO, R.lim, show (0 : Nat) ≤ LIM from by decide, show (0 + 1 : Nat) ≤ LIM from by decide, show (0 + 1 + 1 : Nat) ≤ LIM from by decide, show (0 + 1 + 1 + 1 + 1 + 1 : Nat) ≤ LIM from by decide]
    rw [evS, hv, hd]
    show R.bind (R.ok (D.lst ((prs K T).map fun p => Tl p.1 p.2)) s2) _ = _
    generalize D.lst ((prs K T).map fun p => Tl p.1 p.2) = dd
    cases hq : dd.imm <;> simp [zW, Z.keep, freeze, vars, Z.puts, Tg.put, Tg.ixs, hq]
  -- no other yard is alike
  rw [evS_seq (z' := zW K T (some (Y K T)) (some (.lst ((prs K T).map fun p => Tl p.1 p.2))) none none k6 t7 none none none [7, 6]) (s' := s2)]
  rotate_left
  · have eo := others_ev (n := n - 1) (s := s2) ht (by omega) (env := (zW K T (some (Y K T)) (some (.lst ((prs K T).map fun p => Tl p.1 p.2))) none none k6 t7 none none none [7, 6]).env) rfl rfl (by show 12 < 14; decide) rfl
    have a1 := at_k (n := n - 1) (s := s2) (a := .tup (kl K)) (b := .tup (kl T)) (by omega)
    have a2 := at_t (n := n - 1) (s := s2) (a := .tup (kl K)) (b := .tup (kl T)) (by omega)
    have c0 : cmpR Co.P0 (L (n - 1)) .NotEq (.lst []) (.lst []) s2 = .ok (.bl false) s2 := rfl
    have c1 := cmp_yn (n := n - 1) (s := s2) (K := K) (T := T) (d := .tup [.tup (kl K), .tup (kl T)]) (by omega) (.inr ⟨_, rfl⟩)
    have c2 := cmp_yn (n := n - 1) (s := s2) (K := K) (T := T) (d := .non) (by omega) (.inl rfl)
    generalize (C.comp [(("other" : Str), 12)] (.int 1) (.nm 12) (.var 3) _) = cc at eo ⊢
    generalize D.lst ((prs K T).map fun p => Tl p.1 p.2) = od0 at *
    simp only [zW] at eo ⊢
    simp [evS, evB, ev, evL, eo, a1, a2, c0, c1, c2, D.truth, ofO, R.lim, show (0 : Nat) ≤ LIM from by decide, show (0 + 1 + 1 : Nat) ≤ LIM from by decide]
  generalize some (D.lst ((prs K T).map fun p => Tl p.1 p.2)) = ot0
  -- events, many
  rw [evS_seq (z' := zW K T (some (Y K T)) ot0 none none k6 t7 (some (.lst (evs K T))) (some (.int m)) none [7, 6]) (s' := s3)]
  rotate_left
  · have e32 := f32_ok (n := n - 1) (s := s2) (by omega) ok
    generalize hta : Tl K T = ta at *
    generalize hee : evs K T = ee at *
    cases hq : (D.imm (.lst ee)) <;> simp [zW, hta, evS, ev, evL, mask, maskF, vars, e32, e3, Ah.D.immO, Z.keep, freeze, Z.store, Z.set, hq, D.imm]
  -- events, fresh words
  rw [evS_seq (z' := zW K T (some (Y K T)) ot0 none none k6 t7 (some (.lst (evs K T))) (some (.int m)) none [7, 6]) (s' := s3)]
  rotate_left
  · have e20 := f20_ok (n := n - 1) (s := s3) (by omega) ok
    have fl : 40 ≤ (E1.filter fun w => decide (w ∉ K ++ T)).length := by
      have := filter_len (S := K ++ T) E1_nd
      rw [E1_len, List.length_append] at this
      omega
    have e17 := f17_ok (n := n - 1) (s := s3) (r := m) (by omega) ok hm
    rw [fresh_eq hm fl] at e17
    have e35 := f35_ok (n := n - 1) (s := s3) (K := K) (T := T) (r := m) (by omega) (by rw [List.length_append]; omega)
    have kp : kwPut Co.P0 17 ["many", "yard"] [.int m, Y K T] = some [Y K T, .int m] := rfl
    have b1 : bltD .tuple (.lst (evs K T)) = some (.tup (evs K T)) := rfl
    have fl2 : ((E1.filter fun w => decide (w ∉ K ++ T)).take m).length ≤ 40 := by rw [List.length_take]; omega
    have pgF : PyG (.tup (kl ((E1.filter fun w => decide (w ∉ K ++ T)).take m))) 1 := pyg_tl fun w hw => E1_ok w (List.mem_filter.mp (List.mem_of_mem_take hw)).1
    have es := says (n := n - 1) (by omega) (d := .lst [.tup (evs K T), .tup (kl ((E1.filter fun w => decide (w ∉ K ++ T)).take m)), .tup (kl ((E1.filter fun w => decide (w ∉ K ++ T)).take m))]) (k := 3) (.lst fun x hx => by
      simp only [List.mem_cons, List.not_mem_nil, or_false] at hx
      rcases hx with rfl | rfl | rfl
      · exact .tup (pyg_evs ok)
      · exact pgF.mono (by omega)
      · exact pgF.mono (by omega)) (by omega) (by
      have := nds_evs ht
      simp only [D.nds, D.ndsL, nds_kl]; omega) s3
    generalize kl ((E1.filter fun w => decide (w ∉ K ++ T)).take m) = F at *
    generalize hta : Tl K T = ta at *
    generalize hy : Y K T = y at *
    generalize hee : evs K T = ee at *
    simp [zW, hta, evS, evB, ev, evL, e20, e17, e35, kp, b1, es, D.truth, ofO, R.lim, show (0 + 1 + 1 + 1 : Nat) ≤ LIM from by decide]
  -- odd things
  have ik0 : idxD (.lst (kl K)) (.int 0) = some (.str k0) := by rw [hK]; simp [idxD, kl, atI, ixN]
  rw [evS_seq (z' := zW K T (some (Y K T)) ot0 (some (.lst (odB k0))) none k6 t7 (some (.lst (evs K T))) (some (.int m)) none [7, 6]) (s' := s3)]
  rotate_left
  · have ho : odB k0 = [.non, .int 5, .str "start", .tup [], .tup [.str "start"], .tup [.str "start", .str "late"], .tup [.str "end", .int 4], .tup [.str "end", .int (-1)], .tup [.str "end", .bl true], .tup [.str "end", .str "0"], .lst [.str "start", .str k0], .tup [.str "take", .str k0], .tup [.str "give", .non]] := rfl
    rw [ho]
    simp [zW, evS, ev, evL, mask, maskF, vars, tl0, tl1, ik0, ofO, R.lim, show (0 : Nat) ≤ LIM from by decide, show (0 + 1 : Nat) ≤ LIM from by decide, show (0 + 1 + 1 : Nat) ≤ LIM from by decide, show (0 + 1 + 1 + 1 + 1 + 1 + 1 + 1 + 1 + 1 + 1 + 1 + 1 + 1 : Nat) ≤ LIM from by decide, D.imm, D.immL, Z.keep, freeze, Z.puts, Tg.put, Tg.ixs]
  rw [evS_seq (z' := zW K T (some (Y K T)) ot0 (some (.lst (od k0 T))) none k6 t7 (some (.lst (evs K T))) (some (.int m)) none [7, 6]) (s' := s3)]
  rotate_left
  · have hv : mask (zW K T (some (Y K T)) ot0 (some (.lst (odB k0))) none k6 t7 (some (.lst (evs K T))) (some (.int m)) none [7, 6]) (vars (.bin .Add (.bin .Add (.var 4) (.lst (.cons (.tup (.cons (.str "start") (.cons (.idx (.idx (.var 1) (.int 0)) (.int 0)) (.cons (.int 1) .nil)))) (.cons (.tup (.cons (.int 0) (.cons (.idx (.idx (.var 1) (.int 0)) (.int 0)) .nil))) (.cons (.tup (.cons (.str "begin") (.cons (.idx (.idx (.var 1) (.int 0)) (.int 0)) .nil))) .nil))))) (.comp [("tool", 11)] (.tup (.cons (.str "start") (.cons (.var 11) .nil))) (.nm 11) (.idx (.var 1) (.int 1)) .nop))) = [some .drw, some (Tl K T), some (Y K T), ot0, some (.lst (odB k0)), none, none, none, some (.lst (evs K T)), some (.int m), none, none, none, none] := by simp [mask, maskF, vars]
    have ep := pair_ev (cl := L (n - 1)) (s := s3) (own := "tool") (i := 11) (env := [some .drw, some (Tl K T), some (Y K T), ot0, some (.lst (odB k0)), none, none, none, some (.lst (evs K T)), some (.int m), none, none, none, none]) (it := .idx (.var 1) (.int 1)) (d := .lst (kl T)) (ws := T) (a := "start") (.inl rfl) (by unfold LIM; omega) (by simp [ev, tl1, ofO]) (by show 11 < 14; decide)
    have a1 : opD .Add (.lst (odB k0)) (.lst [.tup [.str "start", .str k0, .int 1], .tup [.int 0, .str k0], .tup [.str "begin", .str k0]]) = some (.lst (odB k0 ++ [.tup [.str "start", .str k0, .int 1], .tup [.int 0, .str k0], ev2 "begin" (.str k0)])) := add_l (by show 13 + 3 ≤ LIM; decide)
    have a2 : opD .Add (.lst (odB k0 ++ [.tup [.str "start", .str k0, .int 1], .tup [.int 0, .str k0], ev2 "begin" (.str k0)])) (.lst (T.map fun t => ev2 "start" (.str t))) = some (.lst (od k0 T)) := add_l (by rw [List.length_map, List.length_append]; show 13 + 3 + T.length ≤ LIM; unfold LIM; omega)
    rw [evS, hv]
    have hd : ev Co.P0 (L (n - 1)) (.bin .Add (.bin .Add (.var 4) (.lst (.cons (.tup (.cons (.str "start") (.cons (.idx (.idx (.var 1) (.int 0)) (.int 0)) (.cons (.int 1) .nil)))) (.cons (.tup (.cons (.int 0) (.cons (.idx (.idx (.var 1) (.int 0)) (.int 0)) .nil))) (.cons (.tup (.cons (.str "begin") (.cons (.idx (.idx (.var 1) (.int 0)) (.int 0)) .nil))) .nil))))) (.comp [("tool", 11)] (.tup (.cons (.str "start") (.cons (.var 11) .nil))) (.nm 11) (.idx (.var 1) (.int 1)) .nop)) [some .drw, some (Tl K T), some (Y K T), ot0, some (.lst (odB k0)), none, none, none, some (.lst (evs K T)), some (.int m), none, none, none, none] s3 = .ok (.lst (od k0 T)) s3 := by
      generalize (C.comp [(("tool" : Str), 11)] (.tup (.cons (.str "start") (.cons (.var 11) .nil))) (.nm 11) (.idx (.var 1) (.int 1)) .nop) = cc at ep ⊢
      generalize (T.map fun t => ev2 "start" (.str t)) = x1 at *
      generalize od k0 T = x2 at *
      generalize odB k0 ++ [.tup [.str "start", .str k0, .int 1], .tup [.int 0, .str k0], ev2 "begin" (.str k0)] = x3 at *
      generalize odB k0 = x4 at *
      simp [ev, evL, tl0, tl1, ik0, ofO, R.lim, a1, a2, ep, show (0 + 1 + 1 : Nat) ≤ LIM from by decide, show (0 + 1 + 1 + 1 : Nat) ≤ LIM from by decide]
    rw [hd]
    generalize D.lst (od k0 T) = dd
    cases hq : dd.imm <;> simp [zW, Z.keep, freeze, vars, Z.puts, Tg.put, Tg.ixs, hq]
  -- the things asked
  obtain ⟨th', du', el⟩ := things_loop (n := n - 1) ht (by omega) (ot := ot0) (odd := some (.lst (od k0 T))) (k6 := k6) (t7 := t7) (ma := some (.int m)) [t1, t2, t3] none none s6 (fun d hd => by
    simp only [List.mem_cons, List.not_mem_nil, or_false] at hd
    rcases hd with rfl | rfl | rfl
    · exact qy _ ht1
    · exact qn _ ht2
    · exact qn _ ht3)
  rw [evS_seq (z' := zW K T (some (Y K T)) ot0 (some (.lst (od k0 T))) th' k6 t7 (some (.lst (evs K T))) (some (.int m)) du' [7, 6]) (s' := s6)]
  rotate_left
  · rw [evS]
    have hi : evI Co.P0 (L (n - 1)) (.lst (.cons (.call 25 (.cons (.var 0) (.cons (.var 8) .nil))) (.cons (.call 25 (.cons (.var 0) (.cons (.var 4) .nil))) (.cons (.call 25 (.cons (.var 0) (.cons (.var 4) .nil))) .nil)))) (mask (zW K T (some (Y K T)) ot0 (some (.lst (od k0 T))) none k6 t7 (some (.lst (evs K T))) (some (.int m)) none [7, 6]) [0, 8, 0, 4, 0, 4]) s3 = .ok [t1, t2, t3] s6 := by
      generalize hta : Tl K T = ta at *
      generalize evs K T = ee at *
      generalize od k0 T = oo at *
      simp [zW, hta, evI, ev, evL, mask, maskF, e4, e5, e6, items, ofO, R.lim, show (0 + 1 + 1 + 1 : Nat) ≤ LIM from by decide]
    have hkeep : (zW K T (some (Y K T)) ot0 (some (.lst (od k0 T))) none k6 t7 (some (.lst (evs K T))) (some (.int m)) none [7, 6]).keep false [0, 8, 0, 4, 0, 4] = zW K T (some (Y K T)) ot0 (some (.lst (od k0 T))) none k6 t7 (some (.lst (evs K T))) (some (.int m)) none [7, 6] := rfl
    show R.bind (evI Co.P0 (L (n - 1)) _ (mask (zW K T (some (Y K T)) ot0 (some (.lst (od k0 T))) none k6 t7 (some (.lst (evs K T))) (some (.int m)) none [7, 6]) [0, 8, 0, 4, 0, 4]) s3) (fun xs s => loopF (.nm 5) (evS Co.P0 (L (n - 1)) FU cThing) xs ((zW K T (some (Y K T)) ot0 (some (.lst (od k0 T))) none k6 t7 (some (.lst (evs K T))) (some (.int m)) none [7, 6]).keep false [0, 8, 0, 4, 0, 4]) s) = _
    rw [hi, hkeep]
    exact el
  generalize hta : Tl K T = ta at *
  generalize hy : Y K T = y at *
  simp [zW, hta, evS, ev, evL, e7, endF]
end
end Pl
end Ah

/-! ## K00F -/
set_option Elab.async false
set_option linter.all false
set_option maxRecDepth 100000
set_option maxHeartbeats 4000000
namespace Ah
open PySem PySem.Spec PyProof.Rows L2
namespace Pl
def cLap : Sx := (.seq (.ife (.not (.call 36 (.cons (.var 1) .nil)))
  (.seq (.ret (.bl false))
  .pass)
  .pass)
  .pass)
theorem lap_loop {n : Nat} {sc : D} (h : 10 ≤ n) : ∀ (ks : List D) (x : Option D) (s : Dr), ∃ x' s', loopF (.nm 2) (evS Co.P0 (L n) FU cLap) ks ⟨[some sc, some .drw, x], [], []⟩ s = .ok (.nx ⟨[some sc, some .drw, x'], [], []⟩) s'
  | [], x, s => ⟨x, s, rfl⟩
  | k :: ks, x, s => by
    obtain ⟨s1, e1⟩ := f36_ok (n := n) h s
    obtain ⟨x', s', e⟩ := lap_loop (sc := sc) h ks (some k) s1
    refine ⟨x', s', ?_⟩
    rw [loopF]
    have b : evS Co.P0 (L n) FU cLap ⟨[some sc, some .drw, some k], [], []⟩ s = .ok (.nx ⟨[some sc, some .drw, some k], [], []⟩) s1 := by
      unfold cLap
      simp [evS, evB, ev, evL, e1, D.truth, ofO]
    simp only [puts_nm, List.set_cons_succ, List.set_cons_zero, b, R.bind_ok]
    exact e
theorem law_ev (ns : List Int) (hl : ns.length ≤ 63) : ∃ s', evS Co.P0 (L 12) FU Co.cL (zL Co.N39 ns) (dr0 ns) = .ok (.rt (.bl true)) s' := by
  have hz : zL Co.N39 ns = ⟨[some (.scr ns), some .drw, none], [], []⟩ := rfl
  rw [hz]
  unfold Co.cL
  obtain ⟨x', s1, e1⟩ := lap_loop (n := 12) (sc := .scr ns) (by decide) ((List.range ((3 + (if 8 < (ns.length : Int) then 8 else (ns.length : Int))) - 0).toNat).map fun (k : Nat) => D.int (0 + k)) none (dr0 ns)
  obtain ⟨s2, e2⟩ := f38_ok (n := 12) (by decide) s1
  refine ⟨s2, ?_⟩
  rw [evS_seq (z' := ⟨[some (.scr ns), some .drw, x'], [], []⟩) (s' := s1)]
  · simp [evS, ev, evL, e2]
  · rw [evS]
    have hi : evI Co.P0 (L 12) (.rng (.int 0) (.bin .Add (.int 3) (.blt2 .minI (.blt .len (.var 0)) (.int 8)))) (mask ⟨[some (.scr ns), some .drw, none], [], []⟩ [0]) (dr0 ns) = .ok ((List.range ((3 + (if 8 < (ns.length : Int) then 8 else (ns.length : Int))) - 0).toNat).map fun (k : Nat) => D.int (0 + k)) (dr0 ns) := by
      have hb : -1000000 ≤ (0 : Int) ∧ (0 : Int) ≤ 1000000 ∧ -1000000 ≤ (3 + (if 8 < (ns.length : Int) then 8 else (ns.length : Int))) ∧ (3 + (if 8 < (ns.length : Int) then 8 else (ns.length : Int))) ≤ 1000000 := by
        split <;> omega
      simp only [evI, ev, mask_nil, R.bind_ok, List.getElem?_cons_zero, bltD, blt2D, opD, ofO]
      rw [if_pos hb]
      rfl
    show R.bind (evI Co.P0 (L 12) _ (mask ⟨[some (.scr ns), some .drw, none], [], []⟩ [0]) (dr0 ns)) _ = _
    rw [hi]
    simp only [R.bind_ok, keep_nil]
    exact e1
end Pl
end Ah

/-! ## K00f -/
set_option Elab.async false
set_option linter.all false
set_option maxRecDepth 100000
set_option maxHeartbeats 0
namespace Ah
open PySem PySem.Spec PyProof.Rows L2
theorem plain : ∀ ns : List Int, ns.length ≤ 63 → (∀ z ∈ ns, Builtin.Int.intBits z ≤ 1048576) → ∃ s', evS Co.P0 (lvl Co.P0 De.bod (fun _ => none) 300 12) 300 Co.cL (zL Co.N39 ns) (dr0 ns) = .ok (.rt (.bl true)) s' := fun ns h _ => Pl.law_ev ns h
theorem roomL : Room (5 * 12 + 5) callerA := ⟨rfl, by decide +kernel, by decide +kernel⟩
end Ah
open PySem PySem.W PySem.Calls PyProof.Rows
theorem PySem.Challenge.cw_allhands_k00_whole_yards_holds : PySem.Challenge.rw_allhands_k00_whole_yards.Holds := by
  w_on; o_law
  refine HandSHeadRun.head_any (r := OpenLaw.row PySem.Challenge.rw_allhands_k00_whole_yards) (q := view (OpenLaw.row PySem.Challenge.rw_allhands_k00_whole_yards).prog [52]) (H := Ah.Hd.hk) (ob := Ah.Hd.ob) (M := 6000) (loose := Ah.Hd.names) (d := HandSHeadRun.topDef (OpenLaw.row PySem.Challenge.rw_allhands_k00_whole_yards).prog 52) (kwd := []) Ah.Hd.ob_eq
    (by kernel_rfl) (fun s => by kernel_rfl) Ah.Hd.run (by kernel_rfl) (by kernel_rfl) (by kernel_rfl) (by rfl) (by first | assumption | decide +kernel) (by decide +kernel) ⟨rfl, rfl, rfl, rfl, rfl, by decide +kernel⟩ ?hw ?hc
  case hw => w_witness2
  case hc =>
    refine Ah.walk_G (l := PySem.Challenge.rw_allhands_k00_whole_yards) (n := 63) (U := fun w => L2.CX (PySem.Challenge.rw_allhands_k00_whole_yards).prog w) rfl (by decide) (by kernel_rfl) ?F ?U
    case U =>
      intro w H s e s' z
      obtain ⟨a, B, H', cls, d, _, _, _, _, _, _, _, hE⟩ := z
      exact hE
    intro w mg fa h Y G hmg0
    obtain ⟨K, KX, c⟩ := Y
    have hmg : mg ("law" : PySem.Str) = some (.ref fa) := by
      have e : (HandSHeadRun.topDef (OpenLaw.row PySem.Challenge.rw_allhands_k00_whole_yards).prog 52).name = ("law" : PySem.Str) := by kernel_rfl
      rw [← e]
      exact hmg0
    exact ⟨K, KX, Ah.join Ah.Jo.lawS (by decide) Ah.roomL (by decide) Ah.plain G hmg KX c⟩
