import PyProof.Rows.All
import Wide.All
import OpenK.AllK
import Wide.FinOn
import HandS.ForMost
import HandS.Exc
import HandS.ExcOwn
import HandS.TryOnly
import HandS.WordsExc
import HandS.Flow
import HandS.IsInst
import HandS.Lambda
import HandS.TupAny
import HandS.TupMul
import HandS.Style
import HandS.Deep
import HandS.Wide
import KE.LtData
import HandS.Walk
import HandS.Comp
import HandS.More
import HandS.Gcd
import HandS.Dict
import HandS.WordsDict
import HandS.RaiseMore
import HandS.Text
import KE.SortData
import PyProof.Rows.SumAny
import PyProof.WalksMore
import HandS.ReCall
import KE.DataFind
import HandS.Small
import HandS.ExcIs
import HandS.Zip
import HandS.CallSlots
import HandS.Defaults
import HandS.HeadHook4
import KE.KExcIs
import KE.KStateDown
import Lean
import HandS.Head0
import HandS.Head1
import HandS.Head2
import HandS.HeadEnd
import HandS.HeadHook1
import HandS.HeadHook2
import HandS.HeadHook3
import HandS.HeadWalk
import HandS.Words
import PySem.Challenge.RW_makebook_k01_whole_types_and_partings
set_option Elab.async false
set_option linter.all false
set_option maxRecDepth 100000
set_option maxHeartbeats 4000000
/-! PD0: plain data D, how it stands in the abstract heap (Rep), the state of a def that owns its lists (Zok). -/
namespace PD
open PySem PySem.Spec PyProof.Rows L2

/-- the built-in types that are asked for -/
inductive Ty where
  | non | bool | int | str | tuple | list | dict
  deriving DecidableEq
def Ty.nm : Ty → String
  | .non => "NoneType" | .bool => "bool" | .int => "int" | .str => "str" | .tuple => "tuple" | .list => "list" | .dict => "dict"
/-- plain data; ob: a value that is handed on as it is -/
inductive D where
  | non | bl (b : Bool) | int (i : Int) | str (s : Str)
  | tup (xs : List D) | lst (xs : List D) | dct (ks vs : List D)
  | exc (n : Str) (fs : List D) | ob (v : V) | st | ty (t : Ty) | cls (n : Str) | kl (ns : List Int)

/-- what a law draws from -/
structure DS where
  great : List Int
  cells : List Int
  rest : Int
  turn : Int
structure Gc where
  K : PySem.W.Frag
  mg : Str → Option Value
  /-- the law's state: its dict, the list of great cells, the list of cells -/
  p : Addr
  g : Addr
  c : Addr
  pg : p ≠ g
  pc : p ≠ c
  gc : g ≠ c
  /-- whether the state stands -/
  on : Bool
  /-- the tables of code objects -/
  T : List (Addr × Str)
/-- the state's dict -/
def stD (g c : Addr) (S : DS) : List (Key × V) := [(.inr "great", .ref g), (.inr "cells", .ref c), (.inr "rest", .int S.rest), (.inr "turn", .int S.turn)]
def Gc.st (G : Gc) : V := .ref G.p
/-- its objects -/
def Gc.sh (G : Gc) (S : DS) : Hp := fun a => if G.on = false then none else if a = G.p then some (.dK (stD G.g G.c S)) else if a = G.g then some (.lst (S.great.map V.int)) else if a = G.c then some (.lst (S.cells.map V.int)) else none
theorem on_f {G : Gc} (h : G.on = true) : ¬ G.on = false := fun e => by rw [h] at e; cases e
theorem Gc.shp (G : Gc) (S : DS) (h : G.on = true) : G.sh S G.p = some (.dK (stD G.g G.c S)) := by unfold Gc.sh; rw [if_neg (on_f h), if_pos rfl]
theorem Gc.shg (G : Gc) (S : DS) (h : G.on = true) : G.sh S G.g = some (.lst (S.great.map V.int)) := by unfold Gc.sh; rw [if_neg (on_f h), if_neg (Ne.symm G.pg), if_pos rfl]
theorem Gc.shc (G : Gc) (S : DS) (h : G.on = true) : G.sh S G.c = some (.lst (S.cells.map V.int)) := by unfold Gc.sh; rw [if_neg (on_f h), if_neg (Ne.symm G.pc), if_neg (Ne.symm G.gc), if_pos rfl]
theorem Gc.shn (G : Gc) (S : DS) {a : Addr} (h : G.on = true) : G.sh S a = none ↔ a ≠ G.p ∧ a ≠ G.g ∧ a ≠ G.c := by
  unfold Gc.sh
  rw [if_neg (on_f h)]
  constructor
  · intro h
    refine ⟨fun e => ?_, fun e => ?_, fun e => ?_⟩
    · rw [if_pos e] at h; cases h
    · by_cases e1 : a = G.p
      · rw [if_pos e1] at h; cases h
      · rw [if_neg e1, if_pos e] at h; cases h
    · by_cases e1 : a = G.p
      · rw [if_pos e1] at h; cases h
      · rw [if_neg e1] at h
        by_cases e2 : a = G.g
        · rw [if_pos e2] at h; cases h
        · rw [if_neg e2, if_pos e] at h; cases h
  · rintro ⟨h1, h2, h3⟩
    rw [if_neg h1, if_neg h2, if_neg h3]
theorem Gc.shoff (G : Gc) (S : DS) (a : Addr) (h : G.on = false) : G.sh S a = none := by unfold Gc.sh; rw [if_pos h]
theorem Gc.shd (G : Gc) (S S' : DS) (a : Addr) (h : G.sh S a = none) : G.sh S' a = none := by
  cases e : G.on with
  | false => exact G.shoff S' a e
  | true => exact (G.shn S' e).mpr ((G.shn S e).mp h)
theorem Gc.shT (G : Gc) (S : DS) (a : Addr) (ps : Array Value) : G.sh S a ≠ some (.tbl ps) := by
  unfold Gc.sh
  intro h
  by_cases e0 : G.on = false
  · rw [if_pos e0] at h; cases h
  · rw [if_neg e0] at h
    by_cases e1 : a = G.p
    · rw [if_pos e1] at h; cases h
    · rw [if_neg e1] at h
      by_cases e2 : a = G.g
      · rw [if_pos e2] at h; cases h
      · rw [if_neg e2] at h
        by_cases e3 : a = G.c
        · rw [if_pos e3] at h; cases h
        · rw [if_neg e3] at h; cases h
/-- all but tables -/
def noTbl : Option HO → Option HO
  | some (.tbl _) => none
  | o => o
theorem noTbl_some {x : Option HO} {o : HO} (h : noTbl x = some o) : x = some o ∧ ∀ ps, o ≠ .tbl ps := by
  cases x with
  | none => cases h
  | some u => cases u <;> first | (cases h; done) | (cases h; exact ⟨rfl, fun ps e => by cases e⟩)
theorem noTbl_of {o : HO} (h : ∀ ps, o ≠ .tbl ps) : noTbl (some o) = some o := by
  cases o <;> first | rfl | exact absurd rfl (h _)
theorem noTbl_free {x : Option HO} {o : HO} (h : noTbl x = none) (e : x = some o) (n : ∀ ps, o ≠ .tbl ps) : False := by
  rw [e, noTbl_of n] at h; cases h
/-- tables stand aside from all else -/
structure Tb (T : List (Addr × Str)) (F R H : Hp) : Prop where
  tab : LamX.Tabs T H
  noF : ∀ a ps, F a ≠ some (.tbl ps)
  noR : ∀ a ps, R a ≠ some (.tbl ps)
theorem Tb.upd {T : List (Addr × Str)} {F R H : Hp} (t : Tb T F R H) {a : Addr} {o : HO} (h1 : ∀ ps, H a ≠ some (.tbl ps)) (h2 : ∀ φ, H a ≠ some (.ext φ)) (h3 : ∀ ps, o ≠ .tbl ps) : Tb T F R (L2.upd H a o) where
  tab := fun p hp => by
    obtain ⟨ps, k1, k2, k3⟩ := t.tab p hp
    have n1 : p.1 ≠ a := fun e => h1 ps (by rw [← e]; exact k1)
    refine ⟨ps, by rw [upd_ne n1]; exact k1, k2, fun pos cv hc => ?_⟩
    obtain ⟨c, e1, e2⟩ := k3 pos cv hc
    have n2 : c ≠ a := fun e => h2 _ (by rw [← e]; exact e2)
    exact ⟨c, e1, by rw [upd_ne n2]; exact e2⟩
  noF := t.noF
  noR := t.noR
theorem Tb.grow {T : List (Addr × Str)} {F R H : Hp} (t : Tb T F R H) {a : Addr} {o : HO} (h : H a = none) (h3 : ∀ ps, o ≠ .tbl ps) : Tb T F R (L2.upd H a o) :=
  t.upd (fun ps e => by rw [h] at e; cases e) (fun ps e => by rw [h] at e; cases e) h3
theorem Tb.of {T : List (Addr × Str)} {F F' R R' H : Hp} (t : Tb T F R H) (h : ∀ a ps, F' a ≠ some (.tbl ps)) (h' : ∀ a ps, R' a ≠ some (.tbl ps)) : Tb T F' R' H := ⟨t.tab, h, h'⟩

def keyD : Key → D
  | .inl i => .int i
  | .inr x => .str x
/-- a dict at a: its keys, its values -/
def DicAt (H : Hp) (a : Addr) (ks : List D) (vs : List V) : Prop :=
  ∃ kvs : List (Key × V), H a = some (.dK kvs) ∧ ks = kvs.map (fun p => keyD p.1) ∧ vs = kvs.map (·.2)
/-- an exception's object: its class, its own dict -/
def ExcH (C : Addr) (d : Option Addr) (a : Addr) : HO := .ext fun h => ∃ (oe : Obj) (vs : Array Value), h.get? a = some oe ∧ Zc (.ref C) d oe ∧ oe.data = .fields vs
/-- the fields of the own exceptions: their names -/
def fieldsOf (n : Str) : List Str :=
  if n = "NoText" then ["line"] else if n = "Used" then ["name"] else if n = "Clash" then ["numbers"] else if n = "TooMany" then ["most"] else []

/-- a tuple: its object has no dict -/
def TupAt (K : PySem.W.Frag) (F : Hp) (a : Addr) (vs : List V) : Prop :=
  (∃ o, F a = some (.frz o (.tup vs)) ∧ o.dict = none) ∨
  ∃ (o : Obj) (its : Array Value) (n : Nat), K.lookup a = some o ∧ o.cls = .type "tuple" ∧ o.dict = none ∧ o.data = .seq its n ∧ its.size ≤ sizeLine ∧ Vals vs its.toList
theorem TupAt.sq {K : PySem.W.Frag} {F : Hp} {a : Addr} {vs : List V} (h : TupAt K F a vs) : SqT K F a vs := by
  rcases h with ⟨o, h, _⟩ | ⟨o, its, n, h1, h2, _, h3, h4, h5⟩
  · exact .inl (.inr ⟨o, h⟩)
  · exact .inr ⟨o, its, n, h1, h2, h3, h4, h5⟩
theorem TupAt.mono {K : PySem.W.Frag} {F F' : Hp} (e : Same F F') {a : Addr} {vs : List V} (h : TupAt K F a vs) : TupAt K F' a vs := by
  rcases h with ⟨o, h, q⟩ | h
  · exact .inl ⟨o, e _ _ h, q⟩
  · exact .inr h
mutual
def Rep (G : Gc) (F : Hp) : D → V → Prop
  | .non, v => v = .non
  | .bl b, v => v = .bl b
  | .int i, v => v = .int i
  | .str s, v => v = .str s
  | .tup ds, v => ∃ a vs, v = .ref a ∧ TupAt G.K F a vs ∧ Reps G F ds vs
  | .lst ds, v => ∃ a vs, v = .ref a ∧ Rd F a (.lst vs) ∧ Reps G F ds vs
  | .dct ks ds, v => ∃ a vs, v = .ref a ∧ DicAt F a ks vs ∧ Reps G F ds vs
  | .exc n fs, v => ∃ a C d vs, v = .ref a ∧ G.mg n = some (.ref C) ∧ F a = some (ExcH C d a) ∧ Reps G F fs vs ∧ vs.length = (fieldsOf n).length ∧
      (fs = [] ∧ d = none ∨ ∃ x, d = some x ∧ F x = some (.xd ((fieldsOf n).zip vs)))
  | .ob u, v => v = u
  | .st, v => v = G.st ∧ G.on = true
  | .kl ns, v => ∃ a, v = .ref a ∧ SqL G.K F a (ns.map V.int)
  | .ty t, v => v = .ty t.nm
  | .cls n, v => ∃ C, v = .ref C ∧ G.mg n = some (.ref C)
def Reps (G : Gc) (F : Hp) : List D → List V → Prop
  | [], vs => vs = []
  | d :: ds, vs => ∃ v r, vs = v :: r ∧ Rep G F d v ∧ Reps G F ds r
end

theorem sqL_mono {K : PySem.W.Frag} {F F' : Hp} (e : Same F F') {a : Addr} {xs : List V} (h : SqL K F a xs) : SqL K F' a xs := e.seq h
theorem sqT_mono {K : PySem.W.Frag} {F F' : Hp} (e : Same F F') {a : Addr} {xs : List V} (h : SqT K F a xs) : SqT K F' a xs := by
  rcases h with (h | ⟨o, h⟩) | h
  · exact .inl (.inl (e _ _ h))
  · exact .inl (.inr ⟨o, e _ _ h⟩)
  · exact .inr h
theorem rd_mono {F F' : Hp} (e : Same F F') {a : Addr} {u : HO} (h : Rd F a u) : Rd F' a u := by
  rcases h with h | ⟨o, h⟩
  · exact .inl (e _ _ h)
  · exact .inr ⟨o, e _ _ h⟩
theorem dicAt_mono {F F' : Hp} (e : Same F F') {a : Addr} {ks : List D} {vs : List V} (h : DicAt F a ks vs) : DicAt F' a ks vs := by
  obtain ⟨kvs, h1, h2⟩ := h
  exact ⟨kvs, e _ _ h1, h2⟩
mutual
theorem Rep.mono {G : Gc} {F F' : Hp} (e : Same F F') : ∀ {d : D} {v : V}, Rep G F d v → Rep G F' d v
  | .non, _, h => h
  | .bl _, _, h => h
  | .int _, _, h => h
  | .str _, _, h => h
  | .tup ds, _, ⟨a, vs, h1, h2, h3⟩ => ⟨a, vs, h1, h2.mono e, Reps.mono e h3⟩
  | .lst ds, _, ⟨a, vs, h1, h2, h3⟩ => ⟨a, vs, h1, rd_mono e h2, Reps.mono e h3⟩
  | .dct ks ds, _, ⟨a, vs, h1, h2, h3⟩ => ⟨a, vs, h1, dicAt_mono e h2, Reps.mono e h3⟩
  | .exc n fs, _, ⟨a, C, d, vs, h1, h2, h3, h4, h5, h6⟩ => ⟨a, C, d, vs, h1, h2, e _ _ h3, Reps.mono e h4, h5, h6.imp id fun ⟨x, h7, h8⟩ => ⟨x, h7, e _ _ h8⟩⟩
  | .ob _, _, h => h
  | .st, _, h => h
  | .ty _, _, h => h
  | .cls _, _, h => h
  | .kl _, _, ⟨a, h1, h2⟩ => ⟨a, h1, sqL_mono e h2⟩
theorem Reps.mono {G : Gc} {F F' : Hp} (e : Same F F') : ∀ {ds : List D} {vs : List V}, Reps G F ds vs → Reps G F' ds vs
  | [], _, h => h
  | _ :: _, _, ⟨v, r, h1, h2, h3⟩ => ⟨v, r, h1, Rep.mono e h2, Reps.mono e h3⟩
end
theorem Reps.length {G : Gc} {F : Hp} : ∀ {ds : List D} {vs : List V}, Reps G F ds vs → ds.length = vs.length
  | [], _, h => by subst h; rfl
  | _ :: _, _, ⟨v, r, h1, _, h3⟩ => by subst h1; simp [Reps.length h3]
theorem Reps.get {G : Gc} {F : Hp} : ∀ {ds : List D} {vs : List V} {i : Nat} {d : D}, Reps G F ds vs → ds[i]? = some d → ∃ v, vs[i]? = some v ∧ Rep G F d v
  | [], _, i, _, _, h => by simp at h
  | d :: ds, _, 0, x, ⟨v, r, h1, h2, h3⟩, h => by subst h1; simp at h; subst h; exact ⟨v, rfl, h2⟩
  | d :: ds, _, i + 1, x, ⟨v, r, h1, h2, h3⟩, h => by
    subst h1
    obtain ⟨w, e1, e2⟩ := Reps.get (i := i) h3 (by simpa using h)
    exact ⟨w, by simpa using e1, e2⟩
theorem Reps.getV {G : Gc} {F : Hp} {ds : List D} {vs : List V} {i : Nat} {v : V} (h : Reps G F ds vs) (e : vs[i]? = some v) : ∃ d, ds[i]? = some d ∧ Rep G F d v := by
  have hl := h.length
  have hi : i < vs.length := (List.getElem?_eq_some_iff.mp e).1
  obtain ⟨w, e1, e2⟩ := h.get (i := i) (d := ds[i]'(by omega)) (by simp [show i < ds.length by omega])
  rw [e] at e1; cases e1
  exact ⟨_, by simp [show i < ds.length by omega], e2⟩
theorem Reps.append {G : Gc} {F : Hp} : ∀ {ds es : List D} {vs ws : List V}, Reps G F ds vs → Reps G F es ws → Reps G F (ds ++ es) (vs ++ ws)
  | [], _, _, _, h, q => by subst h; exact q
  | _ :: _, _, _, _, ⟨v, r, h1, h2, h3⟩, q => by subst h1; exact ⟨v, _, rfl, h2, Reps.append h3 q⟩
theorem Reps.one {G : Gc} {F : Hp} {d : D} {v : V} (h : Rep G F d v) : Reps G F [d] [v] := ⟨v, [], rfl, h, rfl⟩
theorem Reps.of_get {G : Gc} {F : Hp} : ∀ {ds : List D} {vs : List V}, ds.length = vs.length → (∀ (i : Nat) (d : D) (v : V), ds[i]? = some d → vs[i]? = some v → Rep G F d v) → Reps G F ds vs
  | [], [], _, _ => rfl
  | [], _ :: _, h, _ => by simp at h
  | _ :: _, [], h, _ => by simp at h
  | d :: ds, v :: vs, h, k => ⟨v, vs, rfl, k 0 d v rfl rfl, Reps.of_get (by simpa using h) fun i d v h1 h2 => k (i + 1) d v (by simpa using h1) (by simpa using h2)⟩
theorem Reps.take {G : Gc} {F : Hp} : ∀ {ds : List D} {vs : List V} (n : Nat), Reps G F ds vs → Reps G F (ds.take n) (vs.take n)
  | _, _, 0, _ => rfl
  | [], _, n + 1, h => by subst h; rfl
  | _ :: _, _, n + 1, ⟨v, r, h1, h2, h3⟩ => by subst h1; exact ⟨v, _, rfl, h2, Reps.take n h3⟩
theorem Reps.drop {G : Gc} {F : Hp} : ∀ {ds : List D} {vs : List V} (n : Nat), Reps G F ds vs → Reps G F (ds.drop n) (vs.drop n)
  | _, _, 0, h => h
  | [], _, n + 1, h => by subst h; rfl
  | _ :: _, _, n + 1, ⟨v, r, h1, h2, h3⟩ => by subst h1; exact Reps.drop n h3
theorem Reps.set {G : Gc} {F : Hp} {d : D} {v : V} (h : Rep G F d v) : ∀ {ds : List D} {vs : List V} (n : Nat), Reps G F ds vs → Reps G F (ds.set n d) (vs.set n v)
  | [], _, n, q => by subst q; rfl
  | _ :: _, _, 0, ⟨w, r, h1, h2, h3⟩ => by subst h1; exact ⟨v, r, rfl, h, h3⟩
  | _ :: _, _, n + 1, ⟨w, r, h1, h2, h3⟩ => by subst h1; exact ⟨w, _, rfl, h2, Reps.set h n h3⟩
theorem Reps.reverse {G : Gc} {F : Hp} {ds : List D} {vs : List V} (h : Reps G F ds vs) : Reps G F ds.reverse vs.reverse := by
  refine .of_get (by simp [h.length]) fun i d v h1 h2 => ?_
  have hl := h.length
  have hi : i < ds.length := by have := (List.getElem?_eq_some_iff.mp h1).1; simpa using this
  rw [List.getElem?_reverse hi] at h1
  rw [List.getElem?_reverse (by omega)] at h2
  obtain ⟨w, e1, e2⟩ := h.get h1
  rw [hl, h2] at e1
  cases e1
  exact e2

/-! ### the state of a def -/
inductive Sl where
  | un | frz (d : D) | own (d : D)
/-- what a def may change: a list or dict of its own -/
def Own (G : Gc) (F H : Hp) (a : Addr) : D → Prop
  | .lst ds => ∃ vs, H a = some (.lst vs) ∧ Reps G F ds vs
  | .dct ks ds => ∃ vs, DicAt H a ks vs ∧ Reps G F ds vs
  | _ => False
theorem Own.objs {G : Gc} {F H : Hp} {a : Addr} {d : D} (h : Own G F H a d) : ∃ o, H a = some o ∧ ((∃ xs, o = .lst xs) ∨ ∃ xs, o = .dK xs) := by
  cases d with
  | lst ds => obtain ⟨vs, h, _⟩ := h; exact ⟨_, h, .inl ⟨_, rfl⟩⟩
  | dct ks ds =>
    obtain ⟨vs, ⟨kvs, h, _⟩, _⟩ := h
    exact ⟨_, h, .inr ⟨_, rfl⟩⟩
  | _ => exact False.elim h
theorem Own.noT {G : Gc} {F H : Hp} {a : Addr} {d : D} (h : Own G F H a d) : ∀ ps, H a ≠ some (.tbl ps) := fun ps e => by
  obtain ⟨o, ho, k⟩ := h.objs
  rw [ho] at e; cases e
  rcases k with ⟨_, k⟩ | ⟨_, k⟩ <;> cases k
theorem Own.noE {G : Gc} {F H : Hp} {a : Addr} {d : D} (h : Own G F H a d) : ∀ φ, H a ≠ some (.ext φ) := fun ps e => by
  obtain ⟨o, ho, k⟩ := h.objs
  rw [ho] at e; cases e
  rcases k with ⟨_, k⟩ | ⟨_, k⟩ <;> cases k
theorem Own.step {G : Gc} {F F' H H' : Hp} {a : Addr} {d : D} (h : Own G F H a d) (e : Same F F') (k : ∀ o, H a = some o → H' a = some o) : Own G F' H' a d := by
  cases d with
  | lst ds => obtain ⟨vs, h1, h2⟩ := h; exact ⟨vs, k _ h1, h2.mono e⟩
  | dct ks ds =>
    obtain ⟨vs, ⟨kvs, h, q⟩, h2⟩ := h
    exact ⟨vs, ⟨kvs, k _ h, q⟩, h2.mono e⟩
  | _ => exact False.elim h
theorem Own.ne_tbl {G : Gc} {F H : Hp} {a : Addr} {o : HO} {d : D} (h : Own G F (upd H a o) a d) : ∀ ps, o ≠ .tbl ps := fun ps e => by
  obtain ⟨u, hu, k⟩ := h.objs
  rw [upd_same] at hu; cases hu; subst e
  rcases k with ⟨_, k⟩ | ⟨_, k⟩ <;> cases k
/-- .. read -/
theorem Own.rep {G : Gc} {F H : Hp} {a : Addr} {d : D} (h : Own G F H a d) (e : Same F H) : Rep G H d (.ref a) := by
  cases d with
  | lst ds => obtain ⟨vs, h1, h2⟩ := h; exact ⟨a, vs, rfl, .inl h1, h2.mono e⟩
  | dct ks ds => obtain ⟨vs, h1, h2⟩ := h; exact ⟨a, vs, rfl, h1, h2.mono e⟩
  | _ => exact False.elim h

/-- a value as it is read: frozen, or a list or dict of one's own -/
def RepL (G : Gc) (F H : Hp) (d : D) (v : V) : Prop := Rep G F d v ∨ ∃ a, v = .ref a ∧ Own G F H a d
theorem RepL.rep {G : Gc} {F H : Hp} {d : D} {v : V} (h : RepL G F H d v) (e : Same F H) : Rep G H d v := by
  rcases h with h | ⟨a, rfl, h⟩
  · exact h.mono e
  · exact h.rep e
theorem RepL.lst {G : Gc} {F H : Hp} {ds : List D} {v : V} (h : RepL G F H (.lst ds) v) (e : Same F H) : ∃ a vs, v = .ref a ∧ Rd H a (.lst vs) ∧ Reps G F ds vs := by
  rcases h with ⟨a, vs, h1, h2, h3⟩ | ⟨a, h1, vs, h2, h3⟩
  · exact ⟨a, vs, h1, rd_mono e h2, h3⟩
  · exact ⟨a, vs, h1, .inl h2, h3⟩
theorem RepL.tup {G : Gc} {F H : Hp} {ds : List D} {v : V} (h : RepL G F H (.tup ds) v) : ∃ a vs, v = .ref a ∧ TupAt G.K F a vs ∧ Reps G F ds vs := by
  rcases h with h | ⟨a, h1, h⟩
  · exact h
  · exact h.elim
theorem RepL.dct {G : Gc} {F H : Hp} {ks ds : List D} {v : V} (h : RepL G F H (.dct ks ds) v) (e : Same F H) : ∃ a vs, v = .ref a ∧ DicAt H a ks vs ∧ Reps G F ds vs := by
  rcases h with ⟨a, vs, h1, h2, h3⟩ | ⟨a, h1, vs, h2, h3⟩
  · exact ⟨a, vs, h1, dicAt_mono e h2, h3⟩
  · exact ⟨a, vs, h1, h2, h3⟩
/-- .. of all -/
def RepLs (G : Gc) (F H : Hp) : List D → List V → Prop
  | [], vs => vs = []
  | d :: ds, vs => ∃ v r, vs = v :: r ∧ RepL G F H d v ∧ RepLs G F H ds r
theorem RepLs.reps {G : Gc} {F H : Hp} (e : Same F H) : ∀ {ds : List D} {vs : List V}, RepLs G F H ds vs → Reps G H ds vs
  | [], _, h => h
  | d :: ds, _, ⟨v, r, h1, h2, h3⟩ => ⟨v, r, h1, h2.rep e, RepLs.reps e h3⟩

structure Bs where
  /-- what stands ahead, but the shared -/
  R : Hp
  /-- what stood frozen ahead -/
  F0 : Hp
def SlotOk (G : Gc) (B : Bs) (F S H : Hp) (x : Option V) : Sl → Prop
  | .un => True
  | .frz d => ∃ v, x = some v ∧ Rep G F d v
  | .own d => ∃ a, x = some (.ref a) ∧ F a = none ∧ S a = none ∧ B.R a = none ∧ Own G F H a d
structure Zok (G : Gc) (B : Bs) (F : Hp) (env : List Sl) (S : DS) (σ : L2.St) (H : Hp) : Prop where
  exF : Same F H
  exS : Same (G.sh S) H
  exR : Same B.R H
  ex0 : Same B.F0 F
  new : ∀ a, F a ≠ none → B.F0 a = none → B.R a = none
  dis : ∀ a, G.sh S a ≠ none → F a = none ∧ B.R a = none
  tb : Tb G.T F B.R H
  len : env.length = σ.length
  slot : ∀ (i : Nat) (sl : Sl), env[i]? = some sl → SlotOk G B F (G.sh S) H (σ[i]?).join sl
  sep : ∀ (i j : Nat) (d d' : D) (a : Addr), env[i]? = some (.own d) → env[j]? = some (.own d') → (σ[i]?).join = some (.ref a) → (σ[j]?).join = some (.ref a) → i = j

section
variable {G : Gc} {B : Bs} {F F' H H' : Hp} {S S' : DS} {env : List Sl} {σ : L2.St}
theorem free_of {H H' : Hp} (e : Same H H') {a : Addr} (h : H' a = none) : H a = none := e.free h
theorem ne_some {o : Option HO} (h : o ≠ none) : ∃ u, o = some u := by
  cases o with
  | none => exact absurd rfl h
  | some u => exact ⟨u, rfl⟩
theorem some_ne {o : Option HO} {u : HO} (h : o = some u) : o ≠ none := by rw [h]; exact fun z => by cases z

theorem Gc.sh_ne (G : Gc) {S S' : DS} {a : Addr} (h : G.sh S a ≠ none) : G.sh S' a ≠ none := fun e => h (G.shd S' S a e)
/-- the heap grows; what is shared may change -/
theorem Zok.step (z : Zok G B F env S σ H) (eF : Same F F') (eFH : Same F' H') (eSH : Same (G.sh S') H') (keep : ∀ a o, H a = some o → G.sh S a = none → (∀ ps, o ≠ .tbl ps) → H' a = some o)
    (newF : ∀ a, F' a ≠ none → F a = none → noTbl (H a) = none) (tb' : Tb G.T F' B.R H') : Zok G B F' env S' σ H' where
  exF := eFH
  exS := eSH
  exR := fun a o h => keep a o (z.exR a o h) (by
    cases e : G.sh S a with
    | none => rfl
    | some u => have := (z.dis a (some_ne e)).2; rw [h] at this; cases this) (fun ps e => z.tb.noR a ps (by rw [h, e]))
  ex0 := z.ex0.trans eF
  new := fun a h1 h2 => by
    cases e : F a with
    | none =>
      cases q : B.R a with
      | none => rfl
      | some u => exact (noTbl_free (newF a h1 e) (z.exR a u q) fun ps w => z.tb.noR a ps (by rw [q, w])).elim
    | some u => exact z.new a (some_ne e) h2
  dis := fun a h => by
    have h1 := G.sh_ne (S' := S) h
    obtain ⟨h2, h3⟩ := z.dis a h1
    refine ⟨?_, h3⟩
    cases e : F' a with
    | none => rfl
    | some u =>
      obtain ⟨o, ho⟩ := ne_some h1
      exact (noTbl_free (newF a (some_ne e) h2) (z.exS a o ho) fun ps w => G.shT S a ps (by rw [ho, w])).elim
  tb := tb'
  len := z.len
  slot := fun i sl h => by
    have q := z.slot i sl h
    cases sl with
    | un => trivial
    | frz d => obtain ⟨v, q1, q2⟩ := q; exact ⟨v, q1, q2.mono eF⟩
    | own d =>
      obtain ⟨a, q1, q2, q3, q4, q5⟩ := q
      obtain ⟨o, ho, hk⟩ := q5.objs
      refine ⟨a, q1, ?_, G.shd _ _ _ q3, q4, q5.step eF fun o h => keep a o h q3 (fun ps e => by subst e; rw [ho] at h; cases h; rcases hk with ⟨_, e⟩ | ⟨_, e⟩ <;> cases e)⟩
      cases e : F' a with
      | none => rfl
      | some u => exact (noTbl_free (newF a (some_ne e) q2) ho fun ps w => by subst w; rcases hk with ⟨_, hk⟩ | ⟨_, hk⟩ <;> cases hk).elim
  sep := z.sep
/-- a new object, known as frozen -/
theorem Zok.laid (z : Zok G B F env S σ H) {p : Addr} {o : HO} (hp : H p = none) (ho : ∀ ps, o ≠ .tbl ps := by intro _ e; cases e) : Zok G B (upd F p o) env S σ (upd H p o) := by
  have hF := free_of z.exF hp
  have sH : Same H (upd H p o) := fun b u e => by rw [upd_ne (ne_of_none e hp)]; exact e
  refine z.step (fun b u e => by rw [upd_ne (ne_of_none e hF)]; exact e) (fun b u e => ?_) (z.exS.trans sH) (fun a u e _ _ => sH a u e) (fun a h1 h2 => ?_) ((z.tb.grow hp ho).of (fun a ps e => ?_) z.tb.noR)
  · by_cases hb : b = p
    · subst hb; rw [upd_same] at e ⊢; exact e
    · rw [upd_ne hb] at e ⊢; exact z.exF b u e
  · by_cases hb : a = p
    · subst hb; rw [hp]; rfl
    · rw [upd_ne hb] at h1; exact absurd h2 h1
  · by_cases hb : a = p
    · subst hb; rw [upd_same] at e; cases e; exact ho ps rfl
    · rw [upd_ne hb] at e; exact z.tb.noF a ps e
/-- a new object, not frozen -/
theorem Zok.laidO (z : Zok G B F env S σ H) {p : Addr} {o : HO} (hp : H p = none) (ho : ∀ ps, o ≠ .tbl ps := by intro _ e; cases e) : Zok G B F env S σ (upd H p o) := by
  have sH : Same H (upd H p o) := fun b u e => by rw [upd_ne (ne_of_none e hp)]; exact e
  exact z.step (Same.refl F) (z.exF.trans sH) (z.exS.trans sH) (fun a u e _ _ => sH a u e) (fun a h1 h2 => absurd h2 h1) (z.tb.grow hp ho)

/-! #### freezing -/
def frzAt (F H : Hp) (a : Addr) : Hp := fun b => if b = a then H a else F b
theorem frzAt_same {F H : Hp} {a : Addr} : frzAt F H a a = H a := by unfold frzAt; rw [if_pos rfl]
theorem frzAt_ne {F H : Hp} {a b : Addr} (h : b ≠ a) : frzAt F H a b = F b := by unfold frzAt; rw [if_neg h]
theorem same_frzAt {F H : Hp} {a : Addr} (h : F a = none) : Same F (frzAt F H a) := fun b u e => by
  have hb : b ≠ a := fun z => by subst z; rw [h] at e; cases e
  rw [frzAt_ne hb]; exact e
theorem own_frz {G : Gc} {F H : Hp} {a : Addr} {d : D} (h : Own G F H a d) (hF : F a = none) : Rep G (frzAt F H a) d (.ref a) := by
  cases d with
  | lst ds => obtain ⟨vs, h1, h2⟩ := h; exact ⟨a, vs, rfl, .inl (by rw [frzAt_same]; exact h1), h2.mono (same_frzAt hF)⟩
  | dct ks ds =>
    obtain ⟨vs, ⟨kvs, h, q⟩, h2⟩ := h
    exact ⟨a, vs, rfl, ⟨kvs, by rw [frzAt_same]; exact h, q⟩, h2.mono (same_frzAt hF)⟩
  | _ => exact False.elim h
/-- an address that no own slot has -/
def NoOwn (env : List Sl) (σ : L2.St) (a : Addr) : Prop := ∀ (i : Nat) (d : D), env[i]? = some (.own d) → (σ[i]?).join ≠ some (.ref a)
/-- what no slot has is frozen -/
theorem Zok.freeze (z : Zok G B F env S σ H) {a : Addr} {d : D} (hF : F a = none) (hS : G.sh S a = none) (hR : B.R a = none) (hn : NoOwn env σ a) (hT : ∀ ps, H a ≠ some (.tbl ps)) : Zok G B (frzAt F H a) env S σ H where
  tb := z.tb.of (fun b ps e => by
    by_cases hb : b = a
    · subst hb; rw [frzAt_same] at e; exact hT ps e
    · rw [frzAt_ne hb] at e; exact z.tb.noF b ps e) z.tb.noR
  exF := fun b u e => by
    by_cases hb : b = a
    · subst hb; rw [frzAt_same] at e; exact e
    · rw [frzAt_ne hb] at e; exact z.exF b u e
  exS := z.exS
  exR := z.exR
  ex0 := z.ex0.trans (same_frzAt hF)
  new := fun b h1 h2 => by
    by_cases hb : b = a
    · subst hb; exact hR
    · rw [frzAt_ne hb] at h1; exact z.new b h1 h2
  dis := fun b h => by
    have hb : b ≠ a := fun e => by subst e; exact h hS
    rw [frzAt_ne hb]; exact z.dis b h
  len := z.len
  slot := fun i sl h => by
    have q := z.slot i sl h
    cases sl with
    | un => trivial
    | frz d => obtain ⟨v, q1, q2⟩ := q; exact ⟨v, q1, q2.mono (same_frzAt hF)⟩
    | own d =>
      obtain ⟨b, q1, q2, q3, q4, q5⟩ := q
      have hb : b ≠ a := fun e => by subst e; exact hn i d h q1
      exact ⟨b, q1, by rw [frzAt_ne hb]; exact q2, q3, q4, q5.step (same_frzAt hF) fun o h => h⟩
  sep := z.sep
/-- a slot's kind is made weaker, or it is told anew -/
theorem Zok.reslot (z : Zok G B F env S σ H) (i : Nat) (sl : Sl) (h : SlotOk G B F (G.sh S) H (σ[i]?).join sl) (hn : ∀ d, sl = .own d → ∃ d', env[i]? = some (Sl.own d')) : Zok G B F (env.set i sl) S σ H where
  tb := z.tb
  exF := z.exF
  exS := z.exS
  exR := z.exR
  ex0 := z.ex0
  new := z.new
  dis := z.dis
  len := by rw [List.length_set]; exact z.len
  slot := fun j x hx => by
    by_cases e : i = j
    · subst e
      by_cases hi : i < env.length
      · rw [List.getElem?_set_self hi] at hx; cases hx; exact h
      · rw [List.getElem?_eq_none (by simpa using hi)] at hx; cases hx
    · rw [List.getElem?_set_ne e] at hx; exact z.slot j x hx
  sep := fun j k d d' a h1 h2 => by
    have w : ∀ {j : Nat} {d : D}, (env.set i sl)[j]? = some (Sl.own d) → ∃ d', env[j]? = some (Sl.own d') := fun {j d} h => by
      by_cases e : i = j
      · subst e
        by_cases hi : i < env.length
        · rw [List.getElem?_set_self hi] at h; cases h; exact hn d rfl
        · rw [List.getElem?_eq_none (by simpa using hi)] at h; cases h
      · rw [List.getElem?_set_ne e] at h; exact ⟨d, h⟩
    obtain ⟨d1, e1⟩ := w h1
    obtain ⟨d2, e2⟩ := w h2
    exact z.sep j k d1 d2 a e1 e2
/-- an own slot is frozen -/
theorem Zok.frz (z : Zok G B F env S σ H) {i : Nat} {d : D} (h : env[i]? = some (.own d)) : ∃ F' v, Same F F' ∧ Zok G B F' (env.set i (.frz d)) S σ H ∧ (σ[i]?).join = some v ∧ Rep G F' d v := by
  obtain ⟨a, q1, q2, q3, q4, q5⟩ := z.slot i _ h
  have z1 := z.reslot i .un trivial (fun d h => by cases h)
  have hn : NoOwn (env.set i .un) σ a := fun j d' h1 h2 => by
    by_cases e : i = j
    · subst e
      have hi : i < env.length := (List.getElem?_eq_some_iff.mp h).1
      rw [List.getElem?_set_self hi] at h1; cases h1
    · rw [List.getElem?_set_ne e] at h1
      exact e (z.sep i j d d' a h h1 q1 h2)
  have z2 := z1.freeze (d := d) q2 q3 q4 hn q5.noT
  have r := own_frz q5 q2
  refine ⟨_, .ref a, same_frzAt q2, ?_, q1, r⟩
  have z3 := z2.reslot i (.frz d) ⟨_, q1, r⟩ (fun d h => by cases h)
  rw [List.set_set] at z3
  exact z3
/-- an own object changes -/
theorem Zok.mut (z : Zok G B F env S σ H) {i : Nat} {d d' : D} {a : Addr} {o : HO} (h : env[i]? = some (.own d)) (hσ : (σ[i]?).join = some (.ref a)) (own' : Own G F (upd H a o) a d') :
    Zok G B F (env.set i (.own d')) S σ (upd H a o) := by
  obtain ⟨b, q1, q2, q3, q4, q5⟩ := z.slot i _ h
  have hb : b = a := by rw [q1] at hσ; injection hσ with e; injection e
  subst hb
  have kp : ∀ c u, c ≠ b → H c = some u → upd H b o c = some u := fun c u hc e => by rw [upd_ne hc]; exact e
  have z1 : Zok G B F (env.set i .un) S σ (upd H b o) := by
    have z0 := z.reslot i .un trivial (fun d h => by cases h)
    refine ⟨fun c u e => kp c u (fun w => by subst w; rw [q2] at e; cases e) (z.exF c u e), fun c u e => kp c u (fun w => by subst w; rw [q3] at e; cases e) (z.exS c u e), fun c u e => kp c u (fun w => by subst w; rw [q4] at e; cases e) (z.exR c u e),
      z.ex0, z.new, z.dis, z.tb.upd q5.noT q5.noE own'.ne_tbl, z0.len, fun j sl hj => ?_, z0.sep⟩
    have q := z0.slot j sl hj
    cases sl with
    | un => trivial
    | frz d => exact q
    | own d'' =>
      obtain ⟨c, p1, p2, p3, p4, p5⟩ := q
      have hc : c ≠ b := fun e => by
        subst e
        by_cases e : i = j
        · subst e
          have hi : i < env.length := (List.getElem?_eq_some_iff.mp h).1
          rw [List.getElem?_set_self hi] at hj; cases hj
        · rw [List.getElem?_set_ne e] at hj
          exact e (z.sep i j d d'' c h hj q1 p1)
      exact ⟨c, p1, p2, p3, p4, p5.step (Same.refl F) fun u e => kp c u hc e⟩
  refine ⟨z1.exF, z1.exS, z1.exR, z1.ex0, z1.new, z1.dis, z1.tb, by rw [List.length_set]; exact z.len, fun j sl hj => ?_, fun j k d1 d2 c h1 h2 e1 e2 => ?_⟩
  · by_cases e : i = j
    · subst e
      have hi : i < env.length := (List.getElem?_eq_some_iff.mp h).1
      rw [List.getElem?_set_self hi] at hj; cases hj
      exact ⟨b, q1, q2, q3, q4, own'⟩
    · rw [List.getElem?_set_ne e] at hj
      exact z1.slot j sl (by rw [List.getElem?_set_ne e]; exact hj)
  · have w : ∀ {j : Nat} {d : D}, (env.set i (Sl.own d'))[j]? = some (Sl.own d) → ∃ d', env[j]? = some (Sl.own d') := fun {j d0} h0 => by
      by_cases e : i = j
      · subst e; exact ⟨d, h⟩
      · rw [List.getElem?_set_ne e] at h0; exact ⟨d0, h0⟩
    obtain ⟨x1, y1⟩ := w h1
    obtain ⟨x2, y2⟩ := w h2
    exact z.sep j k x1 x2 c y1 y2 e1 e2
/-! #### a name is stored -/
theorem join_set {σ : L2.St} {i j : Nat} {v : V} : ((σ.set i (some v))[j]?).join = if i = j ∧ i < σ.length then some v else (σ[j]?).join := by
  by_cases e : i = j
  · subst e
    by_cases hi : i < σ.length
    · rw [List.getElem?_set_self hi, if_pos ⟨rfl, hi⟩]; rfl
    · rw [if_neg fun h => hi h.2, List.getElem?_eq_none (by simpa using hi), List.getElem?_eq_none (by simpa using hi)]
  · rw [List.getElem?_set_ne e, if_neg fun h => e h.1]
theorem Zok.store (z : Zok G B F env S σ H) (i : Nat) {sl : Sl} {v : V} (h : SlotOk G B F (G.sh S) H (some v) sl) (hn : ∀ d a, sl = .own d → v = .ref a → NoOwn env σ a) : Zok G B F (env.set i sl) S (σ.set i (some v)) H where
  tb := z.tb
  exF := z.exF
  exS := z.exS
  exR := z.exR
  ex0 := z.ex0
  new := z.new
  dis := z.dis
  len := by rw [List.length_set, List.length_set]; exact z.len
  slot := fun j x hx => by
    rw [join_set]
    by_cases e : i = j
    · subst e
      by_cases hi : i < env.length
      · rw [List.getElem?_set_self hi] at hx; cases hx
        rw [if_pos ⟨rfl, by rw [← z.len]; exact hi⟩]; exact h
      · rw [List.getElem?_eq_none (by simpa using hi)] at hx; cases hx
    · rw [List.getElem?_set_ne e] at hx
      rw [if_neg fun h => e h.1]; exact z.slot j x hx
  sep := fun j k d d' a h1 h2 e1 e2 => by
    rw [join_set] at e1 e2
    by_cases hj : i = j
    · by_cases hk : i = k
      · exact hj.symm.trans hk
      · subst hj
        rw [if_neg fun h => hk h.1] at e2
        rw [List.getElem?_set_ne hk] at h2
        have hi : i < env.length := by have := (List.getElem?_eq_some_iff.mp h1).1; simpa using this
        rw [List.getElem?_set_self hi] at h1; cases h1
        rw [if_pos ⟨rfl, by rw [← z.len]; exact hi⟩] at e1
        injection e1 with e1
        exact absurd e2 (hn d a rfl e1 k d' h2)
    · rw [List.getElem?_set_ne hj] at h1
      rw [if_neg fun h => hj h.1] at e1
      by_cases hk : i = k
      · subst hk
        have hi : i < env.length := by have := (List.getElem?_eq_some_iff.mp h2).1; simpa using this
        rw [List.getElem?_set_self hi] at h2; cases h2
        rw [if_pos ⟨rfl, by rw [← z.len]; exact hi⟩] at e2
        injection e2 with e2
        exact absurd e1 (hn d' a rfl e2 j d h1)
      · rw [List.getElem?_set_ne hk] at h2
        rw [if_neg fun h => hk h.1] at e2
        exact z.sep j k d d' a h1 h2 e1 e2
end
end PD

set_option Elab.async false
set_option linter.all false
set_option maxRecDepth 100000
set_option maxHeartbeats 4000000
/-! PD1: what an expression makes of plain data, as a function; that its reading follows from it. -/
namespace PD
open PySem PySem.Spec PyProof.Rows L2

/-- an expression's value: data that stands frozen; a new list or dict that nothing else has; the own list of a slot -/
inductive EV where
  | val (d : D) | fresh (d : D) | slot (i : Nat)
structure Xn where
  n : Str
  fs : List D
inductive RR (α : Type) where
  | ok (a : α) (e : List Sl) (S : DS)
  | err (x : Xn) (e : List Sl) (S : DS)
  | bad
def RR.bind {α β : Type} : RR α → (α → List Sl → DS → RR β) → RR β
  | .ok a e S, k => k a e S
  | .err x e S, _ => .err x e S
  | .bad, _ => .bad
abbrev M (α : Type) := List Sl → DS → RR α
abbrev EM := M EV
/-- one thing behind another -/
def M.then {α β : Type} (m : M α) (k : α → M β) : M β := fun e S => (m e S).bind k
def slD : Sl → Option D
  | .un => none
  | .frz d => some d
  | .own d => some d
def dat (e : List Sl) : EV → Option D
  | .val d => some d
  | .fresh d => some d
  | .slot i => e[i]?.bind slD
def EV.look : EV → EV
  | .fresh d => .val d
  | x => x
def take (e : List Sl) : EV → Option (D × List Sl)
  | .val d => some (d, e)
  | .fresh d => some (d, e)
  | .slot i => match e[i]? with
    | some (.own d) => some (d, e.set i (.frz d))
    | some (.frz d) => some (d, e)
    | _ => none
def takes (e : List Sl) : List EV → Option (List D × List Sl)
  | [] => some ([], e)
  | x :: xs => match take e x with
    | some (d, e') => match takes e' xs with
      | some (ds, e'') => some (d :: ds, e'')
      | none => none
    | none => none
def dats (e : List Sl) : List EV → Option (List D)
  | [] => some []
  | x :: xs => match dat e x, dats e xs with
    | some d, some ds => some (d :: ds)
    | _, _ => none

section
variable (G : Gc) (B : Bs) (F : Hp) (env : List Sl) (S : DS) (σ : L2.St) (H : Hp)
def EVok (v : V) : EV → Prop
  | .val d => Rep G F d v
  | .fresh d => ∃ a, v = .ref a ∧ F a = none ∧ G.sh S a = none ∧ B.R a = none ∧ NoOwn env σ a ∧ Own G F H a d
  | .slot i => (σ[i]?).join = some v
/-- an exception that flies -/
def XnOk (x : Xn) (cls : Value) (d : Option Addr) : Prop := ∃ C vs, cls = .ref C ∧ G.mg x.n = some (.ref C) ∧ Reps G F x.fs vs ∧ vs.length = (fieldsOf x.n).length ∧
  (x.fs = [] ∧ d = none ∨ ∃ a, d = some a ∧ H a = some (.xd ((fieldsOf x.n).zip vs)) ∧ F a = none ∧ G.sh S a = none ∧ B.R a = none ∧ NoOwn env σ a)
end
section
variable (G : Gc) (B : Bs) (W : WX)
def ErrOk (F : Hp) (x : Xn) (env : List Sl) (S : DS) : Prop := ∀ F' σ' H' cls d, Same F F' → Zok G B F' env S σ' H' → XnOk G B F' env S σ' H' x cls d → W cls d σ' H'
/-- .. the names as they were -/
def ErrE (F : Hp) (σ : L2.St) (x : Xn) (env : List Sl) (S : DS) : Prop := ∀ F' H' cls d, Same F F' → Zok G B F' env S σ H' → XnOk G B F' env S σ H' x cls d → W cls d σ H'
/-- what is wanted of a value that has come -/
def PostV (F : Hp) (σ : L2.St) (Q : VK) (ev : EV) (env : List Sl) (S : DS) : Prop := ∀ F' v H', Same F F' → Zok G B F' env S σ H' → EVok G B F' env S σ H' v ev → Q v H'
def Pst (F : Hp) (σ : L2.St) (Q : VK) : RR EV → Prop
  | .ok ev env S => PostV G B F σ Q ev env S
  | .err x env S => ErrE G B W F σ x env S
  | .bad => False
end
def ET (G : Gc) (W : WX) (m : EM) : TE := fun σ H Q => ∃ B F env S, Zok G B F env S σ H ∧ Pst G B W F σ Q (m env S)
/-- .. of a test -/
def PstB (G : Gc) (B : Bs) (W : WX) (F : Hp) (σ : L2.St) (Q : Bool → Hp → Prop) : RR Bool → Prop
  | .ok b env S => ∀ F' H', Same F F' → Zok G B F' env S σ H' → Q b H'
  | .err x env S => ErrE G B W F σ x env S
  | .bad => False
def BT (G : Gc) (W : WX) (m : M Bool) : TT := fun σ H Q => ∃ B F env S, Zok G B F env S σ H ∧ PstB G B W F σ Q (m env S)
/-- .. of arguments: none of them is a fresh one -/
def EVs (G : Gc) (B : Bs) (F : Hp) (env : List Sl) (S : DS) (σ : L2.St) (H : Hp) : List V → List EV → Prop
  | [], [] => True
  | v :: vs, x :: xs => (EVok G B F env S σ H v x ∧ ∀ d, x ≠ .fresh d) ∧ EVs G B F env S σ H vs xs
  | _, _ => False
def PstA (G : Gc) (B : Bs) (W : WX) (F : Hp) (σ : L2.St) (Q : List V → Hp → Prop) : RR (List EV) → Prop
  | .ok xs env S => ∀ F' vs H', Same F F' → Zok G B F' env S σ H' → EVs G B F' env S σ H' vs xs → Q vs H'
  | .err x env S => ErrE G B W F σ x env S
  | .bad => False
def AT (G : Gc) (W : WX) (m : M (List EV)) : TA := fun σ H Q => ∃ B F env S, Zok G B F env S σ H ∧ PstA G B W F σ Q (m env S)

theorem _root_.L2.PE.imp {X : Cx} {e : Expr} {t t' : TE} (h : PE X e t) (k : ∀ σ H Q, t' σ H Q → t σ H Q) : PE X e t' := ⟨fun pins s σ H Q I hq => h.run pins s σ H Q I (k σ H Q hq)⟩
theorem _root_.L2.PT.imp {X : Cx} {e : Expr} {t t' : TT} (h : PT X e t) (k : ∀ σ H Q, t' σ H Q → t σ H Q) : PT X e t' := ⟨fun pins s σ H Q I hq => h.run pins s σ H Q I (k σ H Q hq)⟩
theorem _root_.L2.PW.imp {X : Cx} {e : Expr} {t t' : TT} (h : PW X e t) (k : ∀ σ H Q, t' σ H Q → t σ H Q) : PW X e t' := ⟨fun wh pins s σ H Q I hq => h.run wh pins s σ H Q I (k σ H Q hq)⟩
theorem _root_.L2.PA.imp {X : Cx} {es : List Expr} {t t' : TA} (h : PA X es t) (k : ∀ σ H Q, t' σ H Q → t σ H Q) : PA X es t' := ⟨fun pos pins s σ H Q I hq => h.run pos pins s σ H Q I (k σ H Q hq)⟩
theorem _root_.L2.PO.imp {X : Cx} {e : Option Expr} {t t' : TO} (h : PO X e t) (k : ∀ σ H Q, t' σ H Q → t σ H Q) : PO X e t' := ⟨fun pins s σ H Q I hq => h.run pins s σ H Q I (k σ H Q hq)⟩
theorem _root_.L2.PI.imp {X : Cx} {tg e : Expr} {t t' : TI} (h : PI X tg e t) (k : ∀ σ H Q, t' σ H Q → t σ H Q) : PI X tg e t' := ⟨fun pins s σ H Q I hq => h.run pins s σ H Q I (k σ H Q hq)⟩
theorem _root_.L2.PG.imp {X : Cx} {e : Expr} {t t' : TG} (h : PG X e t) (k : ∀ v σ H Q, t' v σ H Q → t v σ H Q) : PG X e t' := ⟨fun pins s σ H v u Q I r hq => h.run pins s σ H v u Q I r (k v σ H Q hq)⟩
theorem _root_.L2.PS.imp {X : Cx} {e : Stmt} {t t' : TS} (h : PS X e t) (k : ∀ D σ H, t' D σ H → t D σ H) : PS X e t' := ⟨fun pins s σ H D I hq => h.run pins s σ H D I (k D σ H hq)⟩
theorem _root_.L2.PSs.imp {X : Cx} {e : List Stmt} {t t' : TS} (h : PSs X e t) (k : ∀ D σ H, t' D σ H → t D σ H) : PSs X e t' := ⟨fun pins s σ H D I hq => h.run pins s σ H D I (k D σ H hq)⟩

section
variable {G : Gc} {B : Bs} {W : WX} {F F' : Hp} {env : List Sl} {S : DS} {σ : L2.St} {H H' : Hp}
theorem ErrOk.mono {x : Xn} (h : ErrOk G B W F x env S) (e : Same F F') : ErrOk G B W F' x env S := fun F'' σ' H' cls d e' z q => h F'' σ' H' cls d (e.trans e') z q
theorem ErrE.mono {x : Xn} (h : ErrE G B W F σ x env S) (e : Same F F') : ErrE G B W F' σ x env S := fun F'' H' cls d e' z q => h F'' H' cls d (e.trans e') z q
theorem ErrOk.at {x : Xn} (h : ErrOk G B W F x env S) : ErrE G B W F σ x env S := fun F' H' cls d s z q => h F' σ H' cls d s z q
theorem Pst.mono {Q : VK} {r : RR EV} (h : Pst G B W F σ Q r) (e : Same F F') : Pst G B W F' σ Q r := by
  cases r with
  | ok ev env S => exact fun F'' v H' e' z q => h F'' v H' (e.trans e') z q
  | err x env S => exact ErrE.mono h e
  | bad => exact h
theorem PstB.mono {Q : Bool → Hp → Prop} {r : RR Bool} (h : PstB G B W F σ Q r) (e : Same F F') : PstB G B W F' σ Q r := by
  cases r with
  | ok ev env S => exact fun F'' H' e' z => h F'' H' (e.trans e') z
  | err x env S => exact ErrE.mono h e
  | bad => exact h
theorem PstA.mono {Q : List V → Hp → Prop} {r : RR (List EV)} (h : PstA G B W F σ Q r) (e : Same F F') : PstA G B W F' σ Q r := by
  cases r with
  | ok ev env S => exact fun F'' v H' e' z q => h F'' v H' (e.trans e') z q
  | err x env S => exact ErrE.mono h e
  | bad => exact h
/-- a value is read as it stands in the heap -/
theorem dat_rep {v : V} {ev : EV} {d : D} (z : Zok G B F env S σ H) (h : EVok G B F env S σ H v ev) (e : dat env ev = some d) : RepL G F H d v := by
  cases ev with
  | val d' => cases e; exact .inl h
  | fresh d' => cases e; obtain ⟨a, rfl, _, _, _, _, o⟩ := h; exact .inr ⟨a, rfl, o⟩
  | slot i =>
    have e' : env[i]?.bind slD = some d := e
    cases q : env[i]? with
    | none => rw [q] at e'; cases e'
    | some sl =>
      rw [q] at e'
      have k := z.slot i sl q
      have h' : (σ[i]?).join = some v := h
      cases sl with
      | un => cases e'
      | frz d' =>
        cases e'
        obtain ⟨v', k1, k2⟩ := k
        rw [h'] at k1; cases k1
        exact .inl k2
      | own d' =>
        cases e'
        obtain ⟨a, k1, _, _, _, k2⟩ := k
        rw [h'] at k1; cases k1
        exact .inr ⟨a, rfl, k2⟩
/-- a new one is kept aside -/
theorem look_ok {v : V} {ev : EV} (z : Zok G B F env S σ H) (h : EVok G B F env S σ H v ev) : ∃ F', Same F F' ∧ Zok G B F' env S σ H ∧ EVok G B F' env S σ H v ev.look ∧ ∀ d, ev.look ≠ .fresh d := by
  cases ev with
  | val d => exact ⟨F, Same.refl F, z, h, fun _ e => by cases e⟩
  | fresh d =>
    obtain ⟨a, rfl, h1, h2, h3, h4, o⟩ := h
    exact ⟨_, same_frzAt h1, z.freeze (d := d) h1 h2 h3 h4 o.noT, own_frz o h1, fun _ e => by cases e⟩
  | slot i => exact ⟨F, Same.refl F, z, h, fun _ e => by cases e⟩
/-- what is not fresh stays what it is -/
theorem EVok.keep {v : V} {ev : EV} {env' : List Sl} {S' : DS} (h : EVok G B F env S σ H v ev) (nf : ∀ d, ev ≠ .fresh d) (e : Same F F') : EVok G B F' env' S' σ H' v ev := by
  cases ev with
  | val d => exact Rep.mono e h
  | fresh d => exact absurd rfl (nf d)
  | slot i => exact h
theorem EVs.keep {env' : List Sl} {S' : DS} (e : Same F F') : ∀ {vs : List V} {xs : List EV}, EVs G B F env S σ H vs xs → EVs G B F' env' S' σ H' vs xs
  | [], [], _ => trivial
  | v :: vs, x :: xs, ⟨⟨h1, h2⟩, h3⟩ => ⟨⟨h1.keep h2 e, h2⟩, EVs.keep e h3⟩
  | [], _ :: _, h => h
  | _ :: _, [], h => h
theorem EVs.length : ∀ {vs : List V} {xs : List EV}, EVs G B F env S σ H vs xs → vs.length = xs.length
  | [], [], _ => rfl
  | v :: vs, x :: xs, ⟨_, h3⟩ => by simp [EVs.length h3]
  | [], _ :: _, h => h.elim
  | _ :: _, [], h => h.elim
theorem dats_rep (z : Zok G B F env S σ H) : ∀ {vs : List V} {xs : List EV} {ds : List D}, EVs G B F env S σ H vs xs → dats env xs = some ds → RepLs G F H ds vs
  | [], [], ds, _, e => by cases e; rfl
  | v :: vs, x :: xs, ds, ⟨⟨h1, _⟩, h3⟩, e => by
    unfold dats at e
    cases e1 : dat env x with
    | none => rw [e1] at e; cases e
    | some d =>
      cases e2 : dats env xs with
      | none => rw [e1, e2] at e; cases e
      | some ds' =>
        rw [e1, e2] at e; cases e
        exact ⟨v, vs, rfl, dat_rep z h1 e1, dats_rep z h3 e2⟩
  | [], _ :: _, _, h, _ => h.elim
  | _ :: _, [], _, h, _ => h.elim
/-- a value is taken: from now on it is frozen -/
theorem take_ok {v : V} {ev : EV} {d : D} {env' : List Sl} (z : Zok G B F env S σ H) (h : EVok G B F env S σ H v ev) (e : take env ev = some (d, env')) : ∃ F', Same F F' ∧ Zok G B F' env' S σ H ∧ Rep G F' d v := by
  cases ev with
  | val d' => cases e; exact ⟨F, Same.refl F, z, h⟩
  | fresh d' =>
    cases e
    obtain ⟨a, rfl, h1, h2, h3, h4, o⟩ := h
    exact ⟨_, same_frzAt h1, z.freeze (d := d) h1 h2 h3 h4 o.noT, own_frz o h1⟩
  | slot i =>
    have h' : (σ[i]?).join = some v := h
    cases q : env[i]? with
    | none => simp only [take, q] at e; cases e
    | some sl =>
      simp only [take, q] at e
      cases sl with
      | un => cases e
      | frz d' =>
        cases e
        obtain ⟨v', k1, k2⟩ := z.slot i _ q
        rw [h'] at k1; cases k1
        exact ⟨F, Same.refl F, z, k2⟩
      | own d' =>
        cases e
        obtain ⟨F', v', k1, k2, k3, k4⟩ := z.frz q
        rw [h'] at k3; cases k3
        exact ⟨F', k1, k2, k4⟩
theorem takes_ok : ∀ {F : Hp} {env : List Sl} {vs : List V} {xs : List EV} {ds : List D} {env' : List Sl}, Zok G B F env S σ H → EVs G B F env S σ H vs xs → takes env xs = some (ds, env') → ∃ F', Same F F' ∧ Zok G B F' env' S σ H ∧ Reps G F' ds vs
  | F, env, [], [], ds, env', z, _, e => by cases e; exact ⟨F, Same.refl F, z, rfl⟩
  | F, env, v :: vs, x :: xs, ds, env', z, ⟨⟨h1, _⟩, h3⟩, e => by
    unfold takes at e
    cases e1 : take env x with
    | none => rw [e1] at e; cases e
    | some p =>
      obtain ⟨d, env1⟩ := p
      rw [e1] at e
      cases e2 : takes env1 xs with
      | none => simp only [e2] at e; cases e
      | some p2 =>
        obtain ⟨ds2, env2⟩ := p2
        simp only [e2] at e; cases e
        obtain ⟨F1, s1, z1, r1⟩ := take_ok z h1 e1
        obtain ⟨F2, s2, z2, r2⟩ := takes_ok z1 (EVs.keep s1 h3) e2
        exact ⟨F2, s1.trans s2, z2, v, vs, rfl, r1.mono s2, r2⟩
  | _, _, [], _ :: _, _, _, _, h, _ => h.elim
  | _, _, _ :: _, [], _, _, _, h, _ => h.elim
/-- one expression, then the rest -/
theorem Pst.bind {r : RR EV} {k : EV → EM} {Q : VK} (p : Pst G B W F σ Q (r.bind k)) : Pst G B W F σ (fun v H1 => ∃ F1 env1 S1 ev, Same F F1 ∧ Zok G B F1 env1 S1 σ H1 ∧ EVok G B F1 env1 S1 σ H1 v ev ∧ Pst G B W F1 σ Q (k ev env1 S1)) r := by
  cases r with
  | bad => exact p
  | err x env1 S1 => exact p
  | ok ev env1 S1 => exact fun F' v H' s z' q => ⟨F', env1, S1, ev, s, z', q, Pst.mono (r := k ev env1 S1) p s⟩
theorem Pst.bindR {r : RR EV} {k : EV → M (List EV)} {Q : List V → Hp → Prop} (p : PstA G B W F σ Q (r.bind k)) : Pst G B W F σ (fun v H1 => ∃ F1 env1 S1 ev, Same F F1 ∧ Zok G B F1 env1 S1 σ H1 ∧ EVok G B F1 env1 S1 σ H1 v ev ∧ PstA G B W F1 σ Q (k ev env1 S1)) r := by
  cases r with
  | bad => exact p
  | err x env1 S1 => exact p
  | ok ev env1 S1 => exact fun F' v H' s z' q => ⟨F', env1, S1, ev, s, z', q, PstA.mono (r := k ev env1 S1) p s⟩
theorem Pst.bindB {r : RR EV} {k : EV → M Bool} {Q : Bool → Hp → Prop} (p : PstB G B W F σ Q (r.bind k)) : Pst G B W F σ (fun v H1 => ∃ F1 env1 S1 ev, Same F F1 ∧ Zok G B F1 env1 S1 σ H1 ∧ EVok G B F1 env1 S1 σ H1 v ev ∧ PstB G B W F1 σ Q (k ev env1 S1)) r := by
  cases r with
  | bad => exact p
  | err x env1 S1 => exact p
  | ok ev env1 S1 => exact fun F' v H' s z' q => ⟨F', env1, S1, ev, s, z', q, PstB.mono (r := k ev env1 S1) p s⟩
theorem PstB.bind {r : RR Bool} {k : Bool → EM} {Q : VK} (p : Pst G B W F σ Q (r.bind k)) : PstB G B W F σ (fun b H1 => ∃ F1 env1 S1, Same F F1 ∧ Zok G B F1 env1 S1 σ H1 ∧ Pst G B W F1 σ Q (k b env1 S1)) r := by
  cases r with
  | bad => exact p
  | err x env1 S1 => exact p
  | ok ev env1 S1 => exact fun F' H' s z' => ⟨F', env1, S1, s, z', Pst.mono (r := k ev env1 S1) p s⟩
theorem PstB.bindB {r : RR Bool} {k : Bool → M Bool} {Q : Bool → Hp → Prop} (p : PstB G B W F σ Q (r.bind k)) : PstB G B W F σ (fun b H1 => ∃ F1 env1 S1, Same F F1 ∧ Zok G B F1 env1 S1 σ H1 ∧ PstB G B W F1 σ Q (k b env1 S1)) r := by
  cases r with
  | bad => exact p
  | err x env1 S1 => exact p
  | ok ev env1 S1 => exact fun F' H' s z' => ⟨F', env1, S1, s, z', PstB.mono (r := k ev env1 S1) p s⟩
theorem PstA.bind {r : RR (List EV)} {k : List EV → EM} {Q : VK} (p : Pst G B W F σ Q (r.bind k)) : PstA G B W F σ (fun vs H1 => ∃ F1 env1 S1 xs, Same F F1 ∧ Zok G B F1 env1 S1 σ H1 ∧ EVs G B F1 env1 S1 σ H1 vs xs ∧ Pst G B W F1 σ Q (k xs env1 S1)) r := by
  cases r with
  | bad => exact p
  | err x env1 S1 => exact p
  | ok ev env1 S1 => exact fun F' v H' s z' q => ⟨F', env1, S1, ev, s, z', q, Pst.mono (r := k ev env1 S1) p s⟩
theorem PstA.bindR {r : RR (List EV)} {k : List EV → M (List EV)} {Q : List V → Hp → Prop} (p : PstA G B W F σ Q (r.bind k)) : PstA G B W F σ (fun vs H1 => ∃ F1 env1 S1 xs, Same F F1 ∧ Zok G B F1 env1 S1 σ H1 ∧ EVs G B F1 env1 S1 σ H1 vs xs ∧ PstA G B W F1 σ Q (k xs env1 S1)) r := by
  cases r with
  | bad => exact p
  | err x env1 S1 => exact p
  | ok ev env1 S1 => exact fun F' v H' s z' q => ⟨F', env1, S1, ev, s, z', q, PstA.mono (r := k ev env1 S1) p s⟩
theorem Pst.imp {r : RR EV} {Q Q' : VK} (p : Pst G B W F σ Q r) (h : ∀ v H, Q v H → Q' v H) : Pst G B W F σ Q' r := by
  cases r with
  | bad => exact p
  | err x env1 S1 => exact p
  | ok ev env1 S1 => exact fun F' v H' s z' q => h v H' (p F' v H' s z' q)
theorem PstB.imp {r : RR Bool} {Q Q' : Bool → Hp → Prop} (p : PstB G B W F σ Q r) (h : ∀ v H, Q v H → Q' v H) : PstB G B W F σ Q' r := by
  cases r with
  | bad => exact p
  | err x env1 S1 => exact p
  | ok ev env1 S1 => exact fun F' H' s z' => h ev H' (p F' H' s z')
theorem PstA.imp {r : RR (List EV)} {Q Q' : List V → Hp → Prop} (p : PstA G B W F σ Q r) (h : ∀ v H, Q v H → Q' v H) : PstA G B W F σ Q' r := by
  cases r with
  | bad => exact p
  | err x env1 S1 => exact p
  | ok ev env1 S1 => exact fun F' v H' s z' q => h v H' (p F' v H' s z' q)
end

/-! ### the functions -/
def eC (d : D) : EM := fun e S => .ok (.val d) e S
def eVar (i : Nat) : EM := fun e S => match e[i]? with
  | some (.frz d) => .ok (.val d) e S
  | some (.own _) => .ok (.slot i) e S
  | _ => .bad
/-- a result or none -/
def ofO (r : Option EV) : EM := fun e S => match r with
  | some ev => .ok ev e S
  | none => .bad
def eBin (f : D → D → Option EV) (ma mb : EM) : EM := ma.then fun a => mb.then fun b => fun e S => match dat e a.look, dat e b with
  | some x, some y => ofO (f x y) e S
  | _, _ => .bad
def eUn (f : D → Option EV) (ma : EM) : EM := ma.then fun a => fun e S => match dat e a with
  | some x => ofO (f x) e S
  | none => .bad
def aNil : M (List EV) := fun e S => .ok [] e S
def aCons (ma : EM) (mr : M (List EV)) : M (List EV) := ma.then fun a => mr.then fun xs => fun e S => .ok (a.look :: xs) e S
/-- a built-in function of data -/
def eFun (f : List D → Option EV) (m : M (List EV)) : EM := m.then fun xs => fun e S => match dats e xs with
  | some ds => ofO (f ds) e S
  | none => .bad
def eTup (m : M (List EV)) : EM := m.then fun xs => fun e S => match takes e xs with
  | some (ds, e') => if ds.length ≤ 100000 then .ok (.val (.tup ds)) e' S else .bad
  | none => .bad
def eLst (m : M (List EV)) : EM := m.then fun xs => fun e S => match takes e xs with
  | some (ds, e') => if ds.length ≤ 100000 then .ok (.fresh (.lst ds)) e' S else .bad
  | none => .bad
def asB : D → Option Bool
  | .bl b => some b
  | _ => none
def bVal (m : EM) : M Bool := m.then fun a => fun e S => match (dat e a).bind asB with
  | some b => .ok b e S
  | none => .bad
def bNot (m : M Bool) : M Bool := m.then fun b => fun e S => .ok (!b) e S
def bAnd (m k : M Bool) : M Bool := m.then fun b => if b = true then k else fun e S => .ok false e S
def bOr (m k : M Bool) : M Bool := m.then fun b => if b = true then fun e S => .ok true e S else k
def eB (m : M Bool) : EM := m.then fun b => eC (.bl b)
def eIf (c : M Bool) (ma mb : EM) : EM := c.then fun b => if b = true then ma else mb

section
variable {X : Cx} {G : Gc} {W : WX} {a b c : Expr} {es : List Expr} {ma mb : EM} {mr : M (List EV)} {pos : Pos}
theorem pd_var {i : Nat} (h : PE X a (tVar i)) : PE X a (ET G W (eVar i)) := h.imp fun σ H Q ⟨B, F, env, S, z, p⟩ => by
  unfold eVar at p
  cases q : env[i]? with
  | none => rw [q] at p; exact p.elim
  | some sl =>
    rw [q] at p
    have k := z.slot i sl q
    cases sl with
    | un => exact p.elim
    | frz d =>
      obtain ⟨v, k1, k2⟩ := k
      refine ⟨v, ?_, p F v H (Same.refl F) z k2⟩
      cases q2 : σ[i]? with
      | none => rw [q2] at k1; cases k1
      | some o => rw [q2] at k1; exact congrArg some k1
    | own d =>
      obtain ⟨u, k1, _⟩ := k
      refine ⟨.ref u, ?_, p F (.ref u) H (Same.refl F) z k1⟩
      cases q2 : σ[i]? with
      | none => rw [q2] at k1; cases k1
      | some o => rw [q2] at k1; exact congrArg some k1
theorem pd_const {d : D} {v : V} (h : PE X a (tC v)) (r : ∀ F, Rep G F d v) : PE X a (ET G W (eC d)) := h.imp fun σ H Q ⟨B, F, env, S, z, p⟩ => p F v H (Same.refl F) z (r F)

/-- a two-place operation: f on data, r on values -/
def OpD (G : Gc) (f : D → D → Option EV) (r : R2) : Prop := ∀ (B : Bs) (F : Hp) (env : List Sl) (S : DS) (σ : L2.St) (H : Hp) (x y : V) (dx dy : D) (ev : EV) (Q : VK),
  Zok G B F env S σ H → RepL G F H dx x → RepL G F H dy y → f dx dy = some ev → PostV G B F σ Q ev env S → r x y H Q
theorem tOp_of {f : D → D → Option EV} {r : R2} (hd : OpD G f r) {σ : L2.St} {H : Hp} {Q : VK} (h : ET G W (eBin f ma mb) σ H Q) : tOp r (ET G W ma) (ET G W mb) σ H Q := by
  obtain ⟨B, F, env, S, z, p⟩ := h
  refine ⟨B, F, env, S, z, (Pst.bind (r := ma env S) p).imp ?_⟩
  rintro x H1 ⟨F1, env1, S1, xa, s1, z1, q1, p1⟩
  obtain ⟨F2, s2, z2, q2, nf⟩ := look_ok z1 q1
  refine ⟨B, F2, env1, S1, z2, (Pst.bind (r := mb env1 S1) (p1.mono s2)).imp ?_⟩
  rintro y H2 ⟨F3, env3, S3, xb, s3, z3, q3, p3⟩
  have q4 := q2.keep (env' := env3) (S' := S3) (H' := H2) nf s3
  cases e1 : dat env3 xa.look with
  | none => simp only [e1] at p3; exact p3.elim
  | some dx =>
    cases e2 : dat env3 xb with
    | none => simp only [e1, e2] at p3; exact p3.elim
    | some dy =>
      simp only [e1, e2] at p3
      cases e3 : f dx dy with
      | none => simp only [e3, ofO] at p3; exact p3.elim
      | some ev =>
        simp only [e3, ofO] at p3
        exact hd B F3 env3 S3 σ H2 x y dx dy ev Q z3 (dat_rep z3 q4 e1) (dat_rep z3 q3 e2) e3 p3
theorem pd_bin {op : Operator} {f : D → D → Option EV} {r : R2} (ho : OpR X (binaryOp op) r) (hd : OpD G f r) (ha : PE X a (ET G W ma)) (hb : PE X b (ET G W mb)) : PE X (.BinOp a op b pos) (ET G W (eBin f ma mb)) :=
  (pe_op ho ha hb).imp fun _ _ _ h => tOp_of hd h
theorem pd_cmp {op : CmpOp} {f : D → D → Option EV} {r : R2} (ho : OpR X (compareOp op) r) (hd : OpD G f r) (ha : PE X a (ET G W ma)) (hb : PE X b (ET G W mb)) (hm : behindInMarks op b = false) : PE X (.Compare a [op] [b] pos) (ET G W (eBin f ma mb)) :=
  (pe_cmpR ho ha hb hm).imp fun _ _ _ h => tOp_of hd h
theorem pd_ix {f : D → D → Option EV} {r : R2} (hr : IxR X r) (hd : OpD G f r) (ha : PE X a (ET G W ma)) (hb : PE X b (ET G W mb)) (hs : PlainIx b) : PE X (.Subscript a b pos) (ET G W (eBin f ma mb)) :=
  (pe_ix hr ha hb hs).imp fun _ _ _ h => tOp_of hd h
/-- a one-place operation -/
def UnD (G : Gc) (f : D → Option EV) (r : V → Hp → VK → Prop) : Prop := ∀ (B : Bs) (F : Hp) (env : List Sl) (S : DS) (σ : L2.St) (H : Hp) (x : V) (dx : D) (ev : EV) (Q : VK),
  Zok G B F env S σ H → RepL G F H dx x → f dx = some ev → PostV G B F σ Q ev env S → r x H Q
theorem pd_un {op : UnaryOp} {f : D → Option EV} {r : V → Hp → VK → Prop} (ho : UnR X (unaryOp op) r) (hd : UnD G f r) (ha : PE X a (ET G W ma)) : PE X (.UnaryOp op a pos) (ET G W (eUn f ma)) :=
  (pe_un ho ha).imp fun σ H Q ⟨B, F, env, S, z, p⟩ => by
    refine ⟨B, F, env, S, z, (Pst.bind (r := ma env S) p).imp ?_⟩
    rintro x H1 ⟨F1, env1, S1, xa, s1, z1, q1, p1⟩
    cases e1 : dat env1 xa with
    | none => simp only [e1] at p1; exact p1.elim
    | some dx =>
      simp only [e1] at p1
      cases e3 : f dx with
      | none => simp only [e3, ofO] at p1; exact p1.elim
      | some ev =>
        simp only [e3, ofO] at p1
        exact hd B F1 env1 S1 σ H1 x dx ev Q z1 (dat_rep z1 q1 e1) e3 p1
/-! #### arguments, displays -/
theorem pd_anil : PA X [] (AT G W aNil) := pa_nil.imp fun σ H Q ⟨B, F, env, S, z, p⟩ => p F [] H (Same.refl F) z trivial
theorem pd_acons (ha : PE X a (ET G W ma)) (hr : PA X es (AT G W mr)) (hs : starEach (a :: es) X.env = (false, eval a X.env) :: starEach es X.env := by rfl) : PA X (a :: es) (AT G W (aCons ma mr)) :=
  (pa_cons ha hr hs).imp fun σ H Q ⟨B, F, env, S, z, p⟩ => by
    refine ⟨B, F, env, S, z, (Pst.bindR (r := ma env S) p).imp ?_⟩
    rintro x H1 ⟨F1, env1, S1, xa, s1, z1, q1, p1⟩
    obtain ⟨F2, s2, z2, q2, nf⟩ := look_ok z1 q1
    refine ⟨B, F2, env1, S1, z2, (PstA.bindR (r := mr env1 S1) (p1.mono s2)).imp ?_⟩
    rintro ys H2 ⟨F3, env3, S3, xs, s3, z3, q3, p3⟩
    exact p3 F3 (x :: ys) H2 (Same.refl F3) z3 ⟨⟨q2.keep nf s3, nf⟩, q3⟩
/-- a tuple of written items: its object has no dict -/
def tTupF (t : TA) : TE := fun σ H Q => t σ H fun xs H1 => xs.length ≤ sizeLine ∧ ∀ p o, H1 p = none → o.dict = none → Q (.ref p) (upd H1 p (.frz o (.tup xs)))
theorem _root_.L2.Inv.laidT {pins : List (Addr × Obj)} {σ : L2.St} {H : Hp} {s : Shared} {t' : Nat} {o : Obj} {xs : List V} {its : List Value} (I : Inv X pins σ H s) (ho : o.cls = .type "tuple" ∧ ∃ n, o.data = .seq its.toArray n) (r : Vals xs its) (hz : xs.length ≤ sizeLine) :
    Inv X pins σ (upd H s.heap.objs.size (.frz o (.tup xs))) { s with heap := s.heap.push o, toks := t' } := by
  have hg : (s.heap.push o).get? s.heap.objs.size = some o := by
    obtain ⟨n, e⟩ := ho.2
    refine Heap.get?_push_size _ ?_
    obtain ⟨c, d, dt, sl⟩ := o
    simp only at e; subst e; rfl
  exact I.laid (t' := t') (fun b u e => Heap.get?_push_of_some _ e) (Nat.le_refl _) ⟨hg, hz, its, r, ⟨o, hg, ho.1, ho.2⟩⟩
theorem pe_tupF {x1} {t : TA} (h : PA X es t) : PE X (.Tuple es x1 pos) (tTupF t) := by
  refine ⟨fun pins s σ H Q I hq => ?_⟩
  refine wpAny_Tuple_spliced (thn (h.run pos pins s σ H _ I hq) fun us s1 ⟨xs, H1, I1, r, z, q⟩ => ⟨by rw [← r.length]; exact z, ?_⟩)
  have hf : H1 s1.heap.objs.size = none := I1.hok.fresh (Nat.le_refl _)
  exact ⟨.ref s1.heap.objs.size, _, Inv.laidT (t' := s1.toks) I1 ⟨rfl, _, rfl⟩ r z, rfl, q _ _ hf rfl⟩
theorem new_tup {B : Bs} {F : Hp} {env : List Sl} {S : DS} {σ : L2.St} {H : Hp} {p : Addr} {o : Obj} {ds : List D} {vs : List V} (z : Zok G B F env S σ H) (hp : H p = none) (ho : o.dict = none) (r : Reps G F ds vs) :
    ∃ F', Same F F' ∧ Zok G B F' env S σ (upd H p (.frz o (.tup vs))) ∧ Rep G F' (.tup ds) (.ref p) := by
  have hF := free_of z.exF hp
  have s : Same F (upd F p (.frz o (.tup vs))) := fun b u e => by rw [upd_ne (ne_of_none e hF)]; exact e
  exact ⟨_, s, z.laid hp, p, vs, rfl, .inl ⟨o, upd_same, ho⟩, r.mono s⟩
theorem pd_tup {x1} (h : PA X es (AT G W mr)) : PE X (.Tuple es x1 pos) (ET G W (eTup mr)) := (pe_tupF h).imp fun σ H Q ⟨B, F, env, S, z, p⟩ => by
  refine ⟨B, F, env, S, z, (PstA.bind (r := mr env S) p).imp ?_⟩
  rintro vs H1 ⟨F1, env1, S1, xs, s1, z1, q1, p1⟩
  cases e : takes env1 xs with
  | none => simp only [e] at p1; exact p1.elim
  | some q =>
    obtain ⟨ds, env2⟩ := q
    simp only [e] at p1
    split at p1
    · rename_i hl
      obtain ⟨F2, s2, z2, r2⟩ := takes_ok z1 q1 e
      have hl2 := r2.length
      refine ⟨by rw [sizeLine_eq]; omega, fun a o ha ho => ?_⟩
      obtain ⟨F3, s3, z3, r3⟩ := new_tup z2 ha ho r2
      exact p1 F3 _ _ (s2.trans s3) z3 r3
    · exact p1.elim
theorem new_lst {B : Bs} {F : Hp} {env : List Sl} {S : DS} {σ : L2.St} {H : Hp} {p : Addr} {ds : List D} {vs : List V} (z : Zok G B F env S σ H) (hp : H p = none) (r : Reps G F ds vs) :
    Zok G B F env S σ (upd H p (.lst vs)) ∧ EVok G B F env S σ (upd H p (.lst vs)) (.ref p) (.fresh (.lst ds)) := by
  refine ⟨z.laidO hp, p, rfl, free_of z.exF hp, free_of z.exS hp, free_of z.exR hp, fun i d h1 h2 => ?_, vs, upd_same, r⟩
  obtain ⟨a, q1, _, _, _, q5⟩ := z.slot i _ h1
  obtain ⟨o, ho, _⟩ := q5.objs
  rw [h2] at q1; cases q1
  rw [hp] at ho; cases ho
theorem pd_lst (h : PA X es (AT G W mr)) : PE X (.List es pos) (ET G W (eLst mr)) := (pe_lst h).imp fun σ H Q ⟨B, F, env, S, z, p⟩ => by
  refine ⟨B, F, env, S, z, (PstA.bind (r := mr env S) p).imp ?_⟩
  rintro vs H1 ⟨F1, env1, S1, xs, s1, z1, q1, p1⟩
  cases e : takes env1 xs with
  | none => simp only [e] at p1; exact p1.elim
  | some q =>
    obtain ⟨ds, env2⟩ := q
    simp only [e] at p1
    split at p1
    · rename_i hl
      obtain ⟨F2, s2, z2, r2⟩ := takes_ok z1 q1 e
      have hl2 := r2.length
      refine ⟨by rw [sizeLine_eq]; omega, fun a ha => ?_⟩
      obtain ⟨z3, r3⟩ := new_lst z2 ha r2
      exact p1 F2 _ _ s2 z3 r3
    · exact p1.elim
/-! #### built-in functions -/
def FunD (G : Gc) (f : List D → Option EV) (r : List V → Hp → VK → Prop) : Prop := ∀ (B : Bs) (F : Hp) (env : List Sl) (S : DS) (σ : L2.St) (H : Hp) (vs : List V) (ds : List D) (ev : EV) (Q : VK),
  Zok G B F env S σ H → RepLs G F H ds vs → f ds = some ev → PostV G B F σ Q ev env S → r vs H Q
theorem tCB_of {f : List D → Option EV} {r : List V → Hp → VK → Prop} (hd : FunD G f r) {σ : L2.St} {H : Hp} {Q : VK} (h : ET G W (eFun f mr) σ H Q) : tCB r (AT G W mr) σ H Q := by
  obtain ⟨B, F, env, S, z, p⟩ := h
  refine ⟨B, F, env, S, z, (PstA.bind (r := mr env S) p).imp ?_⟩
  rintro vs H1 ⟨F1, env1, S1, xs, s1, z1, q1, p1⟩
  cases e1 : dats env1 xs with
  | none => simp only [e1] at p1; exact p1.elim
  | some ds =>
    simp only [e1] at p1
    cases e3 : f ds with
    | none => simp only [e3, ofO] at p1; exact p1.elim
    | some ev =>
      simp only [e3, ofO] at p1
      exact hd B F1 env1 S1 σ H1 vs ds ev Q z1 (dats_rep z1 q1 e1) e3 p1
theorem pd_callB {x : Str} {p : Pos} {id : String} {r : List V → Hp → VK → Prop} {f : List D → Option EV} (hc : CallR X (.builtin id) r) (hd : FunD G f r) (hg : Gl X x) (hm : X.mg x = none) (hv : bootBuiltins x = some (.builtin id)) (ha : PA X (a :: es) (AT G W mr)) (hn : x ≠ "__name__" := by decide) (hdb : (x == ("__debug__" : Str)) = false := by decide)
    (he : starEach (a :: es) X.env = (false, eval a X.env) :: starEach es X.env := by rfl) (hpl : (backTo pos (starEach es X.env)).any (·.1) = false := by rfl) : PE X (.Call (.Name x p) (a :: es) [] pos) (ET G W (eFun f mr)) :=
  (pe_callB hc hg hm hv ha hn hdb he hpl).imp fun _ _ _ h => tCB_of hd h
theorem pd_callTy {x : Str} {p : Pos} {T : String} {r : List V → Hp → VK → Prop} {f : List D → Option EV} (hc : CallR X (.type T) r) (hd : FunD G f r) (hg : Gl X x) (hm : X.mg x = none) (hv : bootBuiltins x = some (.type T)) (ha : PA X (a :: es) (AT G W mr)) (hn : x ≠ "__name__" := by decide) (hdb : (x == ("__debug__" : Str)) = false := by decide)
    (he : starEach (a :: es) X.env = (false, eval a X.env) :: starEach es X.env := by rfl) (hpl : (backTo pos (starEach es X.env)).any (·.1) = false := by rfl) : PE X (.Call (.Name x p) (a :: es) [] pos) (ET G W (eFun f mr)) :=
  (pe_callTy hc hg hm hv ha hn hdb he hpl).imp fun _ _ _ h => tCB_of hd h
/-! #### tests -/
variable {mc : M Bool} {mc' : M Bool} {rest : List Expr}
theorem tB_of {t : TE} (k : ∀ σ H Q, ET G W ma σ H Q → t σ H Q) {σ : L2.St} {H : Hp} {Q : Bool → Hp → Prop} (h : BT G W (bVal ma) σ H Q) : t σ H fun x H1 => ∃ c, x = .bl c ∧ Q c H1 := by
  obtain ⟨B, F, env, S, z, p⟩ := h
  refine k σ H _ ⟨B, F, env, S, z, (Pst.bindB (r := ma env S) p).imp ?_⟩
  rintro x H1 ⟨F1, env1, S1, xa, s1, z1, q1, p1⟩
  cases e : (dat env1 xa).bind asB with
  | none => simp only [e] at p1; exact p1.elim
  | some b =>
    simp only [e] at p1
    cases e1 : dat env1 xa with
    | none => rw [e1] at e; cases e
    | some d =>
      rw [e1] at e
      have q := (dat_rep z1 q1 e1).rep z1.exF
      cases d with
      | bl c => cases e; exact ⟨_, q, p1 F1 H1 (Same.refl F1) z1⟩
      | _ => cases e
/-- an expression of a truth, as a test -/
theorem pd_test (h : PE X a (ET G W ma)) (he : ∀ whole, isTrue a X.env whole = (do let v ← whole; standAt a.pos; holding [v] (truthy v)) := by intro _; rfl) : PT X a (BT G W (bVal ma)) :=
  (pt_val h he).imp fun _ _ _ q => tB_of (fun _ _ _ h => h) q
theorem pd_testC {op : CmpOp} {f : D → D → Option EV} {r : R2} (ho : OpR X (compareOp op) r) (hd : OpD G f r) (ha : PE X a (ET G W ma)) (hb : PE X b (ET G W mb)) (hm : behindInMarks op b = false) : PT X (.Compare a [op] [b] pos) (BT G W (bVal (eBin f ma mb))) :=
  (pt_cmpR ho ha hb hm).imp fun _ _ _ q => tB_of (fun _ _ _ h => tOp_of hd h) q
theorem pd_not (h : PT X a (BT G W mc)) : PT X (.UnaryOp .Not a pos) (BT G W (bNot mc)) := (pt_not h).imp fun σ H Q ⟨B, F, env, S, z, p⟩ => by
  refine ⟨B, F, env, S, z, (PstB.bindB (r := mc env S) p).imp ?_⟩
  rintro b H1 ⟨F1, env1, S1, s1, z1, p1⟩
  exact p1 F1 H1 (Same.refl F1) z1
theorem pd_and1 (h : PT X a (BT G W mc)) : PW X (.BoolOp .And [a] pos) (BT G W mc) := pw_and1 h
theorem pd_or1 (h : PT X a (BT G W mc)) : PW X (.BoolOp .Or [a] pos) (BT G W mc) := pw_or1 h
theorem pd_and (h : PT X a (BT G W mc)) (h' : PW X (.BoolOp .And (b :: rest) pos) (BT G W mc')) : PW X (.BoolOp .And (a :: b :: rest) pos) (BT G W (bAnd mc mc')) := (pw_and h h').imp fun σ H Q ⟨B, F, env, S, z, p⟩ => by
  refine ⟨B, F, env, S, z, (PstB.bindB (r := mc env S) p).imp ?_⟩
  rintro b H1 ⟨F1, env1, S1, s1, z1, p1⟩
  cases b with
  | true => exact ⟨B, F1, env1, S1, z1, p1⟩
  | false => exact p1 F1 H1 (Same.refl F1) z1
theorem pd_or (h : PT X a (BT G W mc)) (h' : PW X (.BoolOp .Or (b :: rest) pos) (BT G W mc')) : PW X (.BoolOp .Or (a :: b :: rest) pos) (BT G W (bOr mc mc')) := (pw_or h h').imp fun σ H Q ⟨B, F, env, S, z, p⟩ => by
  refine ⟨B, F, env, S, z, (PstB.bindB (r := mc env S) p).imp ?_⟩
  rintro b H1 ⟨F1, env1, S1, s1, z1, p1⟩
  cases b with
  | false => exact ⟨B, F1, env1, S1, z1, p1⟩
  | true => exact p1 F1 H1 (Same.refl F1) z1
theorem pd_ifExp (hc : PT X c (BT G W mc)) (ha : PE X a (ET G W ma)) (hb : PE X b (ET G W mb)) : PE X (.IfExp c a b pos) (ET G W (eIf mc ma mb)) := (pe_ifExp hc ha hb).imp fun σ H Q ⟨B, F, env, S, z, p⟩ => by
  refine ⟨B, F, env, S, z, (PstB.bind (r := mc env S) p).imp ?_⟩
  rintro b H1 ⟨F1, env1, S1, s1, z1, p1⟩
  cases b with
  | true => exact ⟨B, F1, env1, S1, z1, p1⟩
  | false => exact ⟨B, F1, env1, S1, z1, p1⟩
/-! #### and, or, not as values -/
theorem pd_one {op} (h : PE X a (ET G W ma)) : PE X (.BoolOp op [a] pos) (ET G W ma) := pe_one h
def vAnd (ma mb : EM) : EM := (bVal ma).then fun b => if b = true then mb else eC (.bl false)
def vOr (ma mb : EM) : EM := (bVal ma).then fun b => if b = true then eC (.bl true) else mb
def vNot (ma : EM) : EM := (bVal ma).then fun b => eC (.bl (!b))
theorem bVal_of {k : Bool → EM} {σ : L2.St} {H : Hp} {Q : VK} {B : Bs} {F : Hp} {env : List Sl} {S : DS} (z : Zok G B F env S σ H) (p : Pst G B W F σ Q (((bVal ma).then k) env S)) :
    Pst G B W F σ (fun x H1 => ∃ c F1 env1 S1, x = .bl c ∧ Same F F1 ∧ Zok G B F1 env1 S1 σ H1 ∧ Pst G B W F1 σ Q (k c env1 S1)) (ma env S) := by
  have p' : Pst G B W F σ Q (((ma env S).bind fun a => fun e S => match (dat e a).bind asB with
    | some b => .ok b e S
    | none => .bad).bind k) := p
  cases e : ma env S with
  | bad => rw [e] at p'; exact p'
  | err x env1 S1 => rw [e] at p'; exact p'
  | ok xa env1 S1 =>
    rw [e] at p'
    intro F1 x H1 s1 z1 q1
    simp only [RR.bind] at p'
    cases e2 : (dat env1 xa).bind asB with
    | none => simp only [e2] at p'; exact p'.elim
    | some b =>
      simp only [e2] at p'
      cases e1 : dat env1 xa with
      | none => rw [e1] at e2; cases e2
      | some d =>
        rw [e1] at e2
        have q := (dat_rep z1 q1 e1).rep z1.exF
        cases d with
        | bl c => cases e2; exact ⟨_, F1, env1, S1, q, s1, z1, Pst.mono (r := k _ env1 S1) p' s1⟩
        | _ => cases e2
theorem pd_vand (ha : PE X a (ET G W ma)) (hb : PE X (.BoolOp .And (b :: rest) pos) (ET G W mb)) : PE X (.BoolOp .And (a :: b :: rest) pos) (ET G W (vAnd ma mb)) := (pe_and ha hb).imp fun σ H Q ⟨B, F, env, S, z, p⟩ => by
  refine ⟨B, F, env, S, z, (bVal_of z p).imp ?_⟩
  rintro x H1 ⟨c, F1, env1, S1, rfl, s1, z1, p1⟩
  refine ⟨c, rfl, ?_⟩
  cases c with
  | true => exact ⟨B, F1, env1, S1, z1, p1⟩
  | false => exact p1 F1 _ H1 (Same.refl F1) z1 rfl
theorem pd_vor (ha : PE X a (ET G W ma)) (hb : PE X (.BoolOp .Or (b :: rest) pos) (ET G W mb)) : PE X (.BoolOp .Or (a :: b :: rest) pos) (ET G W (vOr ma mb)) := (pe_or ha hb).imp fun σ H Q ⟨B, F, env, S, z, p⟩ => by
  refine ⟨B, F, env, S, z, (bVal_of z p).imp ?_⟩
  rintro x H1 ⟨c, F1, env1, S1, rfl, s1, z1, p1⟩
  refine ⟨c, rfl, ?_⟩
  cases c with
  | false => exact ⟨B, F1, env1, S1, z1, p1⟩
  | true => exact p1 F1 _ H1 (Same.refl F1) z1 rfl
theorem pd_vnot (ha : PE X a (ET G W ma)) : PE X (.UnaryOp .Not a pos) (ET G W (vNot ma)) := (pe_not ha).imp fun σ H Q ⟨B, F, env, S, z, p⟩ => by
  refine ⟨B, F, env, S, z, (bVal_of z p).imp ?_⟩
  rintro x H1 ⟨c, F1, env1, S1, rfl, s1, z1, p1⟩
  exact ⟨c, rfl, p1 F1 _ H1 (Same.refl F1) z1 rfl⟩
end
end PD

set_option Elab.async false
set_option linter.all false
set_option maxRecDepth 100000
set_option maxHeartbeats 4000000
/-! PD2: operators on data. -/
namespace PD
open PySem PySem.Spec PyProof.Rows L2

/-! ### data as the library tells it -/
mutual
def py : D → Option PyData
  | .non => some .none
  | .bl b => some (.bool b)
  | .int i => some (.int i)
  | .str s => some (.str s)
  | .tup xs => (pys xs).map .tuple
  | .lst xs => (pys xs).map .list
  | .dct _ _ => none
  | .exc _ _ => none
  | .ob _ => none
  | .st => none
  | .ty _ => none
  | .cls _ => none
  | .kl _ => none
def pys : List D → Option (List PyData)
  | [] => some []
  | x :: xs => match py x, pys xs with
    | some d, some ds => some (d :: ds)
    | _, _ => none
end
mutual
theorem Rep.dp {G : Gc} {H : Hp} : ∀ {d : D} {v : V} {p : PyData}, Rep G H d v → py d = some p → Dp G.K H v p
  | .non, _, _, h, e => by cases e; have h : _ = V.non := h; subst h; exact .non
  | .bl b, _, _, h, e => by cases e; have h : _ = V.bl b := h; subst h; exact .bl b
  | .int i, _, _, h, e => by cases e; have h : _ = V.int i := h; subst h; exact .int i
  | .str s, _, _, h, e => by cases e; have h : _ = V.str s := h; subst h; exact .str s
  | .tup xs, _, p, ⟨a, vs, h1, h2, h3⟩, e => by
    subst h1
    have e' : (pys xs).map PyData.tuple = some p := e
    cases q : pys xs with
    | none => rw [q] at e'; cases e'
    | some ps => rw [q] at e'; cases e'; exact .tup h2.sq (Reps.dp h3 q)
  | .lst xs, _, p, ⟨a, vs, h1, h2, h3⟩, e => by
    subst h1
    have e' : (pys xs).map PyData.list = some p := e
    cases q : pys xs with
    | none => rw [q] at e'; cases e'
    | some ps => rw [q] at e'; cases e'; exact .lst (.inl h2) (Reps.dp h3 q)
  | .dct _ _, _, _, _, e => by cases e
  | .exc _ _, _, _, _, e => by cases e
  | .ob _, _, _, _, e => by cases e
  | .st, _, _, _, e => by cases e
  | .ty _, _, _, _, e => by cases e
  | .cls _, _, _, _, e => by cases e
  | .kl _, _, _, _, e => by cases e
theorem Reps.dp {G : Gc} {H : Hp} : ∀ {ds : List D} {vs : List V} {ps : List PyData}, Reps G H ds vs → pys ds = some ps → DpAll G.K H vs ps
  | [], _, _, h, e => by cases e; have h : _ = [] := h; subst h; exact .nil
  | d :: ds, _, ps, ⟨v, r, h1, h2, h3⟩, e => by
    subst h1
    have e' : (match py d, pys ds with
      | some d, some ds => some (d :: ds)
      | _, _ => none) = some ps := e
    cases q : py d with
    | none => rw [q] at e'; cases e'
    | some p =>
      cases q2 : pys ds with
      | none => rw [q, q2] at e'; cases e'
      | some ps' => rw [q, q2] at e'; cases e'; exact .cons (Rep.dp h2 q) (Reps.dp h3 q2)
end
/-- data that may be asked whether it is the same -/
def okD (d : D) : Option PyData := match py d with
  | some p => if SeqAt.shaped p = true then some p else none
  | none => none
theorem okD_py {d : D} {p : PyData} (h : okD d = some p) : py d = some p ∧ SeqAt.shaped p = true := by
  unfold okD at h
  cases e : py d with
  | none => rw [e] at h; cases h
  | some q =>
    rw [e] at h
    simp only at h
    split at h
    · cases h; exact ⟨rfl, by assumption⟩
    · cases h

section
variable {G : Gc} {B : Bs} {F : Hp} {env : List Sl} {S : DS} {σ : L2.St} {H : Hp} {Q : VK}
theorem PostV.int {i : Int} {v : V} (p : PostV G B F σ Q (.val (.int i)) env S) (z : Zok G B F env S σ H) : Q (.int i) H := p F _ H (Same.refl F) z rfl
theorem PostV.bl {i : Bool} (p : PostV G B F σ Q (.val (.bl i)) env S) (z : Zok G B F env S σ H) : Q (.bl i) H := p F _ H (Same.refl F) z rfl
theorem PostV.str {i : Str} (p : PostV G B F σ Q (.val (.str i)) env S) (z : Zok G B F env S σ H) : Q (.str i) H := p F _ H (Same.refl F) z rfl
theorem PostV.non (p : PostV G B F σ Q (.val .non) env S) (z : Zok G B F env S σ H) : Q .non H := p F _ H (Same.refl F) z rfl
end

/-! ### + -/
section
variable {X : Cx} {G : Gc}
/-- tuple + tuple -/
def rCatF (K : PySem.W.Frag) : R2 := fun x y H Q => ∃ a b xs ys, x = .ref a ∧ y = .ref b ∧ SqT K H a xs ∧ SqT K H b ys ∧ xs.length + ys.length ≤ sizeLine ∧
  (xs = [] → Q (.ref b) H) ∧ (xs ≠ [] → ys = [] → Q (.ref a) H) ∧ (xs ≠ [] → ys ≠ [] → ∀ p o, H p = none → o.dict = none → Q (.ref p) (upd H p (.frz o (.tup (xs ++ ys)))))
theorem op_catF : OpR X (binaryOp .Add) (rCatF X.K) := by
  intro pins s σ H x y v u Q I rx ry h
  obtain ⟨a, b, xs, ys, rfl, rfl, ha, hb, hz, q0, q1, q2⟩ := h
  by_cases hx : xs = []
  · exact op_catA pins s σ H _ _ v u Q I rx ry ⟨a, b, xs, ys, rfl, rfl, ha, hb, hz, q0, fun n => absurd hx n, fun n => absurd hx n⟩
  · cases rx
    cases ry
    obtain ⟨its, r1, p1, _⟩ := I.tuple ha
    obtain ⟨its2, r2, p2, _⟩ := I.tuple hb
    refine HT.cat_tup p1 p2 (fun z => hx (r1.nil_iff.mp z)) (fun z => ⟨.ref a, H, I, rfl, q1 hx (r2.nil_iff.mp z)⟩) (fun z => ?_) (by rw [← r1.length, ← r2.length]; exact hz)
    exact ⟨.ref s.heap.objs.size, _, I.laidT (t' := s.toks) ⟨rfl, _, rfl⟩ (r1.append r2) (by rw [List.length_append]; exact hz), rfl, q2 hx (fun w => z (r2.nil_iff.mpr w)) _ _ (I.hok.fresh (Nat.le_refl _)) rfl⟩
def rCatL : R2 := fun x y H Q => ∃ l b xs zs, x = .ref l ∧ y = .ref b ∧ Rd H l (.lst xs) ∧ Rd H b (.lst zs) ∧ xs.length + zs.length ≤ sizeLine ∧ ∀ p, H p = none → Q (.ref p) (upd H p (.lst (xs ++ zs)))
theorem _root_.L2.Inv.lstR {pins : List (Addr × Obj)} {s : Shared} {σ : L2.St} {H : Hp} {l : Addr} {xs : List V} (I : Inv X pins σ H s) (hH : Rd H l (.lst xs)) :
    xs.length ≤ sizeLine ∧ ∃ (its : List Value) (n : Nat), Vals xs its ∧ xs.length = its.length ∧ s.heap.get? l = some { cls := .type "list", data := .seq its.toArray n } := by
  obtain ⟨z, its, n, r, e⟩ := hH.ok I.hok
  exact ⟨z, its, n, r, r.length, e⟩
theorem op_catL : OpR X (binaryOp .Add) rCatL := by
  intro pins s σ H x y v u Q I rx ry h
  obtain ⟨l, b, xs, zs, rfl, rfl, hH, hB, hz, q⟩ := h
  cases rx
  cases ry
  obtain ⟨z, its, n, r, hl, e⟩ := I.lstR hH
  obtain ⟨z2, its2, n2, r2, hl2, e2⟩ := I.lstR hB
  refine PySem.P.add_list e e2 ?_ (by rw [List.size_toArray, List.size_toArray]; omega)
  have ea : its.toArray ++ its2.toArray = (its ++ its2).toArray := by simp
  rw [ea]
  exact ⟨.ref _, _, I.lnew (t' := s.toks) (r.append r2) (by rw [List.length_append]; omega), rfl, q _ I.fresh⟩
def rAdd (K : PySem.W.Frag) : R2 := fun x y H Q => (∃ i j, x = .int i ∧ y = .int j ∧ Q (.int (i + j)) H) ∨
  ((∃ i j, x = .str i ∧ y = .str j ∧ i.length + j.length ≤ sizeLine ∧ Q (.str (i ++ j)) H) ∨ (rCatF K x y H Q ∨ rCatL x y H Q))
theorem op_addD : OpR X (binaryOp .Add) (rAdd X.K) := op_add.or (op_add_str.or (op_catF.or op_catL))
def opAdd : D → D → Option EV
  | .int i, .int j => some (.val (.int (i + j)))
  | .str a, .str b => if a.length + b.length ≤ 16777216 then some (.val (.str (a ++ b))) else none
  | .tup xs, .tup ys => if xs.length + ys.length ≤ 100000 then some (.val (.tup (xs ++ ys))) else none
  | .lst xs, .lst ys => if xs.length + ys.length ≤ 100000 then some (.fresh (.lst (xs ++ ys))) else none
  | _, _ => none
theorem opd_add : OpD G opAdd (rAdd G.K) := by
  intro B F env S σ H x y dx dy ev Q z hx hy e p
  unfold opAdd at e
  split at e
  · cases e
    have h1 := hx.rep z.exF; have h2 := hy.rep z.exF
    exact .inl ⟨_, _, h1, h2, p F _ H (Same.refl F) z rfl⟩
  · split at e
    · cases e
      have h1 := hx.rep z.exF; have h2 := hy.rep z.exF
      exact .inr (.inl ⟨_, _, h1, h2, by rw [sizeLine_eq]; assumption, p F _ H (Same.refl F) z rfl⟩)
    · cases e
  · split at e
    · cases e
      obtain ⟨a, vs, rfl, ha, ra⟩ := hx.tup
      obtain ⟨b, ws, rfl, hb, rb⟩ := hy.tup
      have l1 := ra.length; have l2 := rb.length
      refine .inr (.inr (.inl ⟨a, b, vs, ws, rfl, rfl, sqT_mono z.exF ha.sq, sqT_mono z.exF hb.sq, by rw [sizeLine_eq]; omega, fun n => ?_, fun n1 n2 => ?_, fun n1 n2 q o hq ho => ?_⟩))
      · subst n
        refine p F _ H (Same.refl F) z ⟨b, ws, rfl, hb, ?_⟩
        have := ra.append rb
        simpa using this
      · subst n2
        refine p F _ H (Same.refl F) z ⟨a, vs, rfl, ha, ?_⟩
        have := ra.append rb
        simpa using this
      · obtain ⟨F3, s3, z3, r3⟩ := new_tup z hq ho (ra.append rb)
        exact p F3 _ _ s3 z3 r3
    · cases e
  · split at e
    · cases e
      obtain ⟨a, vs, rfl, ha, ra⟩ := hx.lst z.exF
      obtain ⟨b, ws, rfl, hb, rb⟩ := hy.lst z.exF
      have l1 := ra.length; have l2 := rb.length
      refine .inr (.inr (.inr ⟨a, b, vs, ws, rfl, rfl, ha, hb, by rw [sizeLine_eq]; omega, fun q hq => ?_⟩))
      obtain ⟨z3, r3⟩ := new_lst z hq (ra.append rb)
      exact p F _ _ (Same.refl F) z3 r3
    · cases e
  · cases e
/-! ### -, *, //, %, ** -/
def opSub : D → D → Option EV
  | .int i, .int j => some (.val (.int (i - j)))
  | _, _ => none
def rSubI : R2 := rI0 fun i j => .int (i - j)
theorem op_subD : OpR X (binaryOp .Sub) rSubI := op_sub
theorem opd_sub : OpD G opSub rSubI := by
  intro B F env S σ H x y dx dy ev Q z hx hy e p
  unfold opSub at e
  split at e
  · cases e
    exact ⟨_, _, hx.rep z.exF, hy.rep z.exF, p F _ H (Same.refl F) z rfl⟩
  · cases e
def mulOk (i j : Int) : Bool := decide (i.natAbs.log2 + j.natAbs.log2 < 1000000)
/-- tuple * int -/
def rRepF (K : PySem.W.Frag) : R2 := fun x y H Q => ∃ l k xs, x = .ref l ∧ y = .int k ∧ SqT K H l xs ∧ xs ≠ [] ∧ 2 ≤ k ∧ k ≤ 1000 ∧ xs.length ≤ 1000 ∧ ∀ p o, H p = none → o.dict = none → Q (.ref p) (upd H p (.frz o (.tup (List.replicate k.toNat xs).flatten)))
/-- .. once -/
def rRep1 (K : PySem.W.Frag) : R2 := fun x y H Q => ∃ l xs, x = .ref l ∧ y = .int 1 ∧ SqT K H l xs ∧ Q (.ref l) H
def rRepL : R2 := fun x y H Q => ∃ l k xs, x = .ref l ∧ y = .int k ∧ Rd H l (.lst xs) ∧ -(2 ^ 63) ≤ k ∧ k < 2 ^ 63 ∧ xs.length * k.toNat ≤ sizeLine ∧
  ∀ p, H p = none → Q (.ref p) (upd H p (.lst (List.replicate k.toNat xs).flatten))
def rMulW : R2 := rI CMulW fun i j => .int (i * j)
def opMulI : D → D → Option EV
  | .int i, .int j => if mulOk i j = true then some (.val (.int (i * j))) else none
  | _, _ => none
theorem opd_mulI : OpD G opMulI rMulW := by
  intro B F env S σ H x y dx dy ev Q z hx hy e p
  unfold opMulI at e
  split at e
  · rename_i i j
    split at e
    · rename_i h
      cases e
      exact ⟨_, _, hx.rep z.exF, hy.rep z.exF, (of_decide_eq_true (p := i.natAbs.log2 + j.natAbs.log2 < 1000000) h), p F _ H (Same.refl F) z rfl⟩
    · cases e
  · cases e
/-- // by what is not 0 -/
def CDivF (_ j : Int) : Prop := j ≠ 0 ∧ j.natAbs.log2 < 9000
theorem op_fdivF : OpR X (binaryOp .FloorDiv) (rI CDivF fun i j => .int (i.fdiv j)) := opI fun i j _ _ _ _ _ hc q => floordiv_int hc.1 q (.inl (PyProof.noPylong_of_log2 hc.2))
def opFdiv : D → D → Option EV
  | .int i, .int j => if (j != 0 && decide (j.natAbs.log2 < 9000)) = true then some (.val (.int (i.fdiv j))) else none
  | _, _ => none
def rFdiv : R2 := rI CDivF fun i j => .int (i.fdiv j)
theorem opd_fdiv : OpD G opFdiv rFdiv := by
  intro B F env S σ H x y dx dy ev Q z hx hy e p
  unfold opFdiv at e
  split at e
  · split at e
    · rename_i h
      cases e
      rw [Bool.and_eq_true] at h
      exact ⟨_, _, hx.rep z.exF, hy.rep z.exF, ⟨by simpa using h.1, of_decide_eq_true h.2⟩, p F _ H (Same.refl F) z rfl⟩
    · cases e
  · cases e
def opMod : D → D → Option EV
  | .int i, .int j => if 0 < j then some (.val (.int (i % j))) else none
  | _, _ => none
def rMod : R2 := rI (fun _ j => 0 < j) fun i j => .int (i % j)
theorem op_modD : OpR X (binaryOp .Mod) rMod := op_mod
theorem opd_mod : OpD G opMod rMod := by
  intro B F env S σ H x y dx dy ev Q z hx hy e p
  unfold opMod at e
  split at e
  · split at e
    · rename_i h
      cases e
      exact ⟨_, _, hx.rep z.exF, hy.rep z.exF, h, p F _ H (Same.refl F) z rfl⟩
    · cases e
  · cases e
def opPow : D → D → Option EV
  | .int i, .int j => if 0 ≤ j ∧ j ≤ 1000 ∧ i.natAbs < 2 ^ 64 then some (.val (.int (i ^ j.toNat))) else none
  | _, _ => none
def rPow : R2 := rI CPow fun i j => .int (i ^ j.toNat)
theorem op_powD : OpR X (binaryOp .Pow) rPow := op_pow
theorem opd_pow : OpD G opPow rPow := by
  intro B F env S σ H x y dx dy ev Q z hx hy e p
  unfold opPow at e
  split at e
  · split at e
    · rename_i h
      cases e
      exact ⟨_, _, hx.rep z.exF, hy.rep z.exF, ⟨h.1, by omega, h.2.2⟩, p F _ H (Same.refl F) z rfl⟩
    · cases e
  · cases e
/-! ### comparisons -/
def opEq (x y : D) : Option EV := match okD x, okD y with
  | some p, some q => some (.val (.bl (PyData.eqv p q)))
  | _, _ => none
def opNe (x y : D) : Option EV := match okD x, okD y with
  | some p, some q => some (.val (.bl (!PyData.eqv p q)))
  | _, _ => none
theorem opd_eq : OpD G opEq (rEqD G.K) := by
  intro B F env S σ H x y dx dy ev Q z hx hy e p
  unfold opEq at e
  cases e1 : okD dx with
  | none => rw [e1] at e; cases e
  | some a =>
    cases e2 : okD dy with
    | none => rw [e1, e2] at e; cases e
    | some b =>
      rw [e1, e2] at e; cases e
      exact ⟨a, b, (hx.rep z.exF).dp (okD_py e1).1, (hy.rep z.exF).dp (okD_py e2).1, (okD_py e1).2, (okD_py e2).2, p F _ H (Same.refl F) z rfl⟩
theorem opd_ne : OpD G opNe (rNeD G.K) := by
  intro B F env S σ H x y dx dy ev Q z hx hy e p
  unfold opNe at e
  cases e1 : okD dx with
  | none => rw [e1] at e; cases e
  | some a =>
    cases e2 : okD dy with
    | none => rw [e1, e2] at e; cases e
    | some b =>
      rw [e1, e2] at e; cases e
      exact ⟨a, b, (hx.rep z.exF).dp (okD_py e1).1, (hy.rep z.exF).dp (okD_py e2).1, (okD_py e1).2, (okD_py e2).2, p F _ H (Same.refl F) z rfl⟩
def opCmpI (f : Int → Int → Bool) : D → D → Option EV
  | .int i, .int j => some (.val (.bl (f i j)))
  | _, _ => none
def rCmpI (f : Int → Int → Bool) : R2 := rI0 fun i j => .bl (f i j)
theorem opd_cmpI {f : Int → Int → Bool} : OpD G (opCmpI f) (rCmpI f) := by
  intro B F env S σ H x y dx dy ev Q z hx hy e p
  unfold opCmpI at e
  split at e
  · cases e
    exact ⟨_, _, hx.rep z.exF, hy.rep z.exF, p F _ H (Same.refl F) z rfl⟩
  · cases e
theorem op_gtD : OpR X (compareOp .Gt) (rCmpI fun i j => decide (j < i)) := op_gt
theorem op_geD : OpR X (compareOp .GtE) (rCmpI fun i j => decide (j ≤ i)) := op_ge
theorem op_leI : OpR X (compareOp .LtE) (rCmpI fun i j => decide (i ≤ j)) := op_le
theorem op_ltI : OpR X (compareOp .Lt) (rCmpI fun i j => decide (i < j)) := op_lt
/-- is, is not: None, truths -/
def rIs1 (f : Bool → Bool) : R2 := fun x y H Q => (y = .non ∧ Q (.bl (f (decide (x = .non)))) H) ∨ ∃ b, y = .bl b ∧ Q (.bl (f (decide (x = .bl b)))) H
theorem relV_beq_bool {x : V} {v : Value} {b : Bool} (r : RelV x v) : (v == Value.bool b) = decide (x = .bl b) := by
  cases x with
  | non => cases r; rfl
  | bl c => cases r; cases b <;> cases c <;> rfl
  | int _ => obtain ⟨t, rfl⟩ := r; rfl
  | str _ => obtain ⟨t, rfl⟩ := r; rfl
  | byt _ => obtain ⟨t, rfl⟩ := r; rfl
  | flt _ => obtain ⟨t, rfl⟩ := r; rfl
  | ref _ => cases r; rfl
  | ty _ => cases r; rfl
theorem plainIs_bool {x : V} {v : Value} {b : Bool} (r : RelV x v) : plainIs v (.bool b) = true := by
  cases x with
  | non => cases r; rfl
  | bl c => cases r; rfl
  | int _ => obtain ⟨t, rfl⟩ := r; rfl
  | str _ => obtain ⟨t, rfl⟩ := r; rfl
  | byt _ => obtain ⟨t, rfl⟩ := r; rfl
  | flt _ => obtain ⟨t, rfl⟩ := r; rfl
  | ref _ => cases r; rfl
  | ty _ => cases r; rfl
theorem op_is1 : OpR X (compareOp .Is) (rIs1 id) := by
  intro pins s σ H x y v u Q I rx ry h
  rcases h with ⟨rfl, q⟩ | ⟨b, rfl, q⟩
  · cases ry
    refine is_none_gen ⟨.bl _, H, I, ?_, q⟩
    show Value.bool _ = _
    rw [rx.none_iff]; rfl
  · cases ry
    exact wpAny_is_plain (plainIs_bool rx) ⟨.bl _, H, I, by show Value.bool _ = _; rw [relV_beq_bool rx]; rfl, q⟩
theorem op_isnot1 : OpR X (compareOp .IsNot) (rIs1 not) := by
  intro pins s σ H x y v u Q I rx ry h
  rcases h with ⟨rfl, q⟩ | ⟨b, rfl, q⟩
  · cases ry
    refine isnot_none_gen ⟨.bl _, H, I, ?_, q⟩
    show Value.bool _ = _
    rw [rx.none_iff]
  · cases ry
    exact wpAny_isNot_plain (plainIs_bool rx) ⟨.bl _, H, I, by show Value.bool _ = _; rw [relV_beq_bool rx], q⟩
def isNon : D → Option Bool
  | .non => some true
  | .ob _ => none
  | .st => none
  | .ty _ => none
  | .cls _ => none
  | .kl _ => none
  | _ => some false
def isBl (b : Bool) : D → Option Bool
  | .bl c => some (b == c)
  | .ob _ => none
  | .st => none
  | .ty _ => none
  | .cls _ => none
  | .kl _ => none
  | _ => some false
def opIs (f : Bool → Bool) (x : D) : D → Option EV
  | .non => (isNon x).map fun b => .val (.bl (f b))
  | .bl c => (isBl c x).map fun b => .val (.bl (f b))
  | _ => none
theorem isNon_ok {F : Hp} {x : D} {v : V} {b : Bool} (h : Rep G F x v) (e : isNon x = some b) : b = decide (v = .non) := by
  cases x with
  | non => cases e; have h : v = _ := h; subst h; rfl
  | bl _ => cases e; have h : v = _ := h; subst h; rfl
  | int _ => cases e; have h : v = _ := h; subst h; rfl
  | str _ => cases e; have h : v = _ := h; subst h; rfl
  | tup _ => cases e; obtain ⟨a, _, h, _⟩ := h; subst h; rfl
  | lst _ => cases e; obtain ⟨a, _, h, _⟩ := h; subst h; rfl
  | dct _ _ => cases e; obtain ⟨a, _, h, _⟩ := h; subst h; rfl
  | exc _ _ => cases e; obtain ⟨a, _, _, _, h, _⟩ := h; subst h; rfl
  | ob _ => cases e
  | st => cases e
  | ty _ => cases e
  | cls _ => cases e
  | kl _ => cases e
theorem isBl_ok {F : Hp} {x : D} {v : V} {b c : Bool} (h : Rep G F x v) (e : isBl c x = some b) : b = decide (v = .bl c) := by
  cases x with
  | non => cases e; have h : v = _ := h; subst h; rfl
  | bl d =>
    have h : v = _ := h; subst h
    have e : some (c == d) = some b := e
    cases c <;> cases d <;> cases e <;> rfl
  | int _ => cases e; have h : v = _ := h; subst h; rfl
  | str _ => cases e; have h : v = _ := h; subst h; rfl
  | tup _ => cases e; obtain ⟨a, _, h, _⟩ := h; subst h; rfl
  | lst _ => cases e; obtain ⟨a, _, h, _⟩ := h; subst h; rfl
  | dct _ _ => cases e; obtain ⟨a, _, h, _⟩ := h; subst h; rfl
  | exc _ _ => cases e; obtain ⟨a, _, _, _, h, _⟩ := h; subst h; rfl
  | ob _ => cases e
  | st => cases e
  | ty _ => cases e
  | cls _ => cases e
  | kl _ => cases e
theorem opd_is {f : Bool → Bool} : OpD G (opIs f) (rIs1 f) := by
  intro B F env S σ H x y dx dy ev Q z hx hy e p
  have h1 := hx.rep z.exF; have h2 := hy.rep z.exF
  cases dy with
  | non =>
    have h2 : y = _ := h2; subst h2
    cases e1 : isNon dx with
    | none => rw [opIs, e1] at e; cases e
    | some b =>
      rw [opIs, e1] at e; cases e
      have e2 := isNon_ok h1 e1
      subst e2
      exact .inl ⟨rfl, p F _ H (Same.refl F) z rfl⟩
  | bl c =>
    have h2 : y = _ := h2; subst h2
    cases e1 : isBl c dx with
    | none => rw [opIs, e1] at e; cases e
    | some b =>
      rw [opIs, e1] at e; cases e
      have e2 := isBl_ok h1 e1
      subst e2
      exact .inr ⟨_, rfl, p F _ H (Same.refl F) z rfl⟩
  | _ => cases e
end

/-! ### * of all kinds -/
section
variable {X : Cx} {G : Gc}
theorem op_repF : OpR X (binaryOp .Mult) (rRepF X.K) := by
  intro pins s σ H x y v u Q I rx ry h
  obtain ⟨l, k, xs, rfl, rfl, hT, hne, h1, h2, hz, q⟩ := h
  cases rx
  obtain ⟨t, rfl⟩ := ry
  obtain ⟨its, r, ⟨⟨cls, dd, data, sl⟩, ho, hc, n, hd⟩, hs⟩ := I.tuple hT
  simp only at hc hd
  subst hc hd
  have hle : its.length = xs.length := r.length.symm
  have hi : its.toArray.isEmpty = false := by
    cases r with
    | nil => exact absurd rfl hne
    | cons a b => rfl
  have hsz0 : its.toArray.size = xs.length := by rw [List.size_toArray, hle]
  have hm : ((its.toArray.size : Nat) : Int) * k ≤ 1000000 := by
    rw [hsz0]
    have a1 : ((xs.length : Nat) : Int) * k ≤ 1000 * k := Int.mul_le_mul_of_nonneg_right (by omega) (by omega)
    omega
  have flen : (List.replicate k.toNat its).flatten.length ≤ sizeLine := by
    rw [PyProof.Rows.lm_len_rep_flat, hle, sizeLine_eq]
    have a1 : k.toNat * xs.length ≤ 1000 * 1000 := Nat.mul_le_mul (by omega) hz
    omega
  have c0 : (decide (k < -(2 ^ 63)) || decide (k ≥ 2 ^ 63)) = false := by
    rw [decide_eq_false (by omega), decide_eq_false (by omega)] <;> rfl
  have c1 : (its.toArray.isEmpty || k == 1) = false := by
    rw [hi, Bool.false_or]
    exact beq_eq_false_iff_ne.mpr (by omega)
  have c2 : (decide (k ≤ 0) || its.toArray.isEmpty) = false := by
    rw [hi, Bool.or_false]
    exact decide_eq_false (by omega)
  have c4 : Builtin.Tuple.tupleTooMany (((its.toArray.size : Nat) : Int) * k) = false := by
    unfold Builtin.Tuple.tupleTooMany
    rw [sizeLine_eq]
    exact decide_eq_false (by omega)
  refine wpAny_binaryOp_repeat_ref (T := "tuple") (U := "int") (by decide) ⟨_, ho, rfl⟩ (fun s' => typeIs_int s' k t) noFill_tuple_mul F.fills_int_mul F.slot_int_rmul repeat_tuple F.slot_int_index.lookup
    (call_meets F.slot_int_rmul (typeIs_int s k t) F.entry_int_rmul (F.args_int_rmul_2 _ _) (int_rmul_tuple k t l its.toArray n dd sl)
      ⟨ho, rfl, ⟨_, ho, rfl⟩, call_meets F.slot_tuple_mul ⟨_, ho, rfl⟩ F.entry_tuple_mul (F.args_tuple_mul_2 _ _) (tuple_mulW l its.toArray n dd sl k t c0 c1 c2 (by omega) c4 (by rw [size_rep, List.size_toArray]; exact flen)) ⟨ho, ?_⟩⟩)
  rw [size_rep]
  have hz2 : (List.replicate k.toNat xs).flatten.length ≤ sizeLine := by
    rw [PyProof.Rows.lm_len_rep_flat, sizeLine_eq]
    have a1 : k.toNat * xs.length ≤ 1000 * 1000 := Nat.mul_le_mul (by omega) hz
    omega
  exact ⟨.ref s.heap.objs.size, _, I.laidT (t' := s.toks) ⟨rfl, _, rfl⟩ (r.rep k.toNat) hz2, rfl, q _ _ (I.hok.fresh (Nat.le_refl _)) rfl⟩
end
end PD

set_option Elab.async false
set_option linter.all false
set_option maxRecDepth 100000
set_option maxHeartbeats 4000000
/-! PD3: in, subscripts, slices, * of all kinds. -/
namespace PD
open PySem PySem.Spec PyProof.Rows L2
section
variable {X : Cx} {G : Gc}
/-! ### x in y -/
/-- deep data in a list or a tuple -/
def rInX (K : PySem.W.Frag) (neg : Bool) : R2 := fun x y H Q => ∃ d ds, Dp K H x d ∧ (Dp K H y (.list ds) ∨ Dp K H y (.tuple ds)) ∧ SeqAt.shaped d = true ∧ SeqAt.shaped (.list ds) = true ∧
  Q (.bl (neg != ds.any fun z => PyData.eqv z d)) H
theorem shaped_tl {ds : List PyData} (h : SeqAt.shaped (.list ds) = true) : SeqAt.shaped (.tuple ds) = true := h
theorem op_inX (hu : X.A.units + 65 < cLine) : OpR X (compareOp .In) (rInX X.K false) := by
  intro pins s σ H x y v u Q I rx ry h
  obtain ⟨d, ds, hd, he, sd, se, q⟩ := h
  obtain ⟨as, r1⟩ := Dp.reads I d x v hd rx
  have q' : Q (.bl (ds.any fun z => PyData.eqv z d)) H := by simpa using q
  rcases he with he | he
  · obtain ⟨bs, r2⟩ := Dp.reads I (.list ds) y u he ry
    exact SeqAt.in_list_reads r2 r1 (SeqAt.canLay_of_shaped se) (SeqAt.canLay_of_shaped sd) (room_in_shaped sd hu) ⟨.bl _, H, I, rfl, q'⟩
  · obtain ⟨bs, r2⟩ := Dp.reads I (.tuple ds) y u he ry
    exact SeqAt.in_tuple_reads r2 r1 (SeqAt.canLay_of_shaped se) (SeqAt.canLay_of_shaped sd) (room_in_shaped sd hu) ⟨.bl _, H, I, rfl, q'⟩
theorem op_notInX (hu : X.A.units + 65 < cLine) : OpR X (compareOp .NotIn) (rInX X.K true) := by
  intro pins s σ H x y v u Q I rx ry h
  obtain ⟨d, ds, hd, he, sd, se, q⟩ := h
  obtain ⟨as, r1⟩ := Dp.reads I d x v hd rx
  have q' : Q (.bl (!ds.any fun z => PyData.eqv z d)) H := by simpa using q
  rcases he with he | he
  · obtain ⟨bs, r2⟩ := Dp.reads I (.list ds) y u he ry
    exact SeqAt.notIn_list_reads r2 r1 (SeqAt.canLay_of_shaped se) (SeqAt.canLay_of_shaped sd) (room_in_shaped sd hu) ⟨.bl _, H, I, rfl, q'⟩
  · obtain ⟨bs, r2⟩ := Dp.reads I (.tuple ds) y u he ry
    exact SeqAt.notIn_tuple_reads r2 r1 (SeqAt.canLay_of_shaped se) (SeqAt.canLay_of_shaped sd) (room_in_shaped sd hu) ⟨.bl _, H, I, rfl, q'⟩
def rInS (neg : Bool) : R2 := fun x y H Q => ∃ (c : Nat) (z : Str), x = .str ⟨#[c]⟩ ∧ y = .str z ∧ Q (.bl (neg != decide (c ∈ z.cps.toList))) H
theorem op_inS1 : OpR X (compareOp .In) (rInS false) := by
  intro pins s σ H x y v u Q I rx ry h
  obtain ⟨c, z, h1, h2, q⟩ := h
  exact op_in_sign pins s σ H x y v u Q I rx ry ⟨c, z, h1, h2, by simpa using q⟩
theorem op_notInS1 : OpR X (compareOp .NotIn) (rInS true) := by
  intro pins s σ H x y v u Q I rx ry h
  obtain ⟨c, z, h1, h2, q⟩ := h
  exact op_notIn_sign pins s σ H x y v u Q I rx ry ⟨c, z, h1, h2, by simpa using q⟩
def rInK (neg : Bool) : R2 := fun x y H Q => ∃ a o, y = .ref a ∧ DGet H a x o ∧ Q (.bl (neg != o.isSome)) H
theorem op_inK (hu : X.A.units + 1 < cLine) : OpR X (compareOp .In) (rInK false) := by
  intro pins s σ H x y v u Q I rx ry h
  obtain ⟨a, o, rfl, g, q⟩ := h
  cases ry
  exact d_in hu I g rx fun s' I' => ⟨.bl _, H, I', rfl, by simpa using q⟩
theorem op_notInK (hu : X.A.units + 1 < cLine) : OpR X (compareOp .NotIn) (rInK true) := by
  intro pins s σ H x y v u Q I rx ry h
  obtain ⟨a, o, rfl, g, q⟩ := h
  cases ry
  exact d_notIn hu I g rx fun s' I' => ⟨.bl _, H, I', rfl, by simpa using q⟩
def rIn3 (K : PySem.W.Frag) (neg : Bool) : R2 := fun x y H Q => rInX K neg x y H Q ∨ (rInS neg x y H Q ∨ rInK neg x y H Q)
theorem op_in3 (hu : X.A.units + 65 < cLine) : OpR X (compareOp .In) (rIn3 X.K false) := (op_inX hu).or (op_inS1.or (op_inK (by omega)))
theorem op_notIn3 (hu : X.A.units + 65 < cLine) : OpR X (compareOp .NotIn) (rIn3 X.K true) := (op_notInX hu).or (op_notInS1.or (op_notInK (by omega)))
def keyOf : D → Option Key
  | .int i => some (.inl i)
  | .str s => some (.inr s)
  | _ => none
def keyEq : D → Key → Bool
  | .int i, .inl j => i == j
  | .str a, .inr b => a == b
  | _, _ => false
def dGet : List D → List D → Key → Option D
  | d :: ds, v :: vs, k => if keyEq d k = true then some v else dGet ds vs k
  | _, _, _ => none
theorem keyEq_ok (k j : Key) : keyEq (keyD k) j = decide (k = j) := by
  cases k with
  | inl a => cases j with
    | inl b => rw [key_ll]; rfl
    | inr b => rw [key_lr]; rfl
  | inr a => cases j with
    | inl b => rw [key_rl]; rfl
    | inr b =>
      rw [key_rr]
      show (a == b) = _
      rw [Bool.eq_iff_iff]; simp
theorem keyOf_ok {F : Hp} {d : D} {k : Key} {v : V} (e : keyOf d = some k) (h : Rep G F d v) : v = kV k := by
  cases d with
  | int i => cases e; exact h
  | str i => cases e; exact h
  | _ => cases e
/-- a dict's own reading of a key -/
theorem dGet_ok {F : Hp} (k : Key) : ∀ {kvs : List (Key × V)} {ds : List D}, Reps G F ds (kvs.map (·.2)) →
    (∀ d, dGet (kvs.map fun p => keyD p.1) ds k = some d → ∃ v, valV kvs k = some v ∧ Rep G F d v) ∧ (dGet (kvs.map fun p => keyD p.1) ds k = none → valV kvs k = none)
  | [], ds, h => by
    have n : dGet (([] : List (Key × V)).map fun p => keyD p.1) ds k = none := by cases ds <;> rfl
    exact ⟨fun d e => (by rw [n] at e; cases e), fun _ => rfl⟩
  | p :: kvs, [], h => by have h : _ = [] := h; cases h
  | p :: kvs, d :: ds, ⟨v, r, h1, h2, h3⟩ => by
    have e1 : p.2 = v ∧ kvs.map (·.2) = r := by simpa using h1
    obtain ⟨rfl, rfl⟩ := e1
    have ih := dGet_ok k (kvs := kvs) h3
    by_cases e : p.1 = k
    · have t : keyEq (keyD p.1) k = true := by rw [keyEq_ok]; exact decide_eq_true e
      refine ⟨fun d' e' => ?_, fun e' => ?_⟩
      · simp only [List.map_cons, dGet, t, if_true] at e'; cases e'
        exact ⟨_, valV_pos e, h2⟩
      · simp only [List.map_cons, dGet, t, if_true] at e'; cases e'
    · have t : keyEq (keyD p.1) k = false := by rw [keyEq_ok]; exact decide_eq_false e
      refine ⟨fun d' e' => ?_, fun e' => ?_⟩
      · simp only [List.map_cons, dGet, t, if_neg Bool.false_ne_true] at e'
        rw [valV_neg e]; exact ih.1 d' e'
      · simp only [List.map_cons, dGet, t, if_neg Bool.false_ne_true] at e'
        rw [valV_neg e]; exact ih.2 e'
def oneSign (s : Str) : Option Nat := match s.cps.toList with
  | [c] => some c
  | _ => none
theorem oneSign_ok : ∀ {s : Str} {c : Nat}, oneSign s = some c → s = ⟨#[c]⟩
  | ⟨⟨[]⟩⟩, c, h => by cases h
  | ⟨⟨[a]⟩⟩, c, h => by cases h; rfl
  | ⟨⟨a :: b :: l⟩⟩, c, h => by cases h
def itemsOf : PyData → Option (List PyData)
  | .list ds => some ds
  | .tuple ds => some ds
  | _ => none
def inD (neg : Bool) (x y : D) : Option EV := match y with
  | .str z => match x with
    | .str s => (oneSign s).map fun c => .val (.bl (neg != decide (c ∈ z.cps.toList)))
    | _ => none
  | .dct ks vs => (keyOf x).map fun k => .val (.bl (neg != (dGet ks vs k).isSome))
  | _ => match okD x, (okD y).bind itemsOf with
    | some p, some ps => some (.val (.bl (neg != ps.any fun z => PyData.eqv z p)))
    | _, _ => none
theorem opd_in {neg : Bool} : OpD G (inD neg) (rIn3 G.K neg) := by
  intro B F env S σ H x y dx dy ev Q z hx hy e p
  have seq : ∀ {dy : D}, RepL G F H dy y → (match okD dx, (okD dy).bind itemsOf with
    | some p, some ps => some (EV.val (.bl (neg != ps.any fun z => PyData.eqv z p)))
    | _, _ => none) = some ev → rIn3 G.K neg x y H Q := fun {dy} hy e => by
    cases e1 : okD dx with
    | none => rw [e1] at e; cases e
    | some a =>
      cases e2 : okD dy with
      | none => rw [e1, e2] at e; cases e
      | some b =>
        rw [e1, e2] at e
        have e' : (match some a, itemsOf b with
          | some p, some ps => some (EV.val (.bl (neg != ps.any fun z => PyData.eqv z p)))
          | _, _ => none) = some ev := e
        cases b with
        | list ds =>
          cases e'
          exact .inl ⟨a, ds, (hx.rep z.exF).dp (okD_py e1).1, .inl ((hy.rep z.exF).dp (okD_py e2).1), (okD_py e1).2, (okD_py e2).2, p F _ H (Same.refl F) z rfl⟩
        | tuple ds =>
          cases e'
          exact .inl ⟨a, ds, (hx.rep z.exF).dp (okD_py e1).1, .inr ((hy.rep z.exF).dp (okD_py e2).1), (okD_py e1).2, (okD_py e2).2, p F _ H (Same.refl F) z rfl⟩
        | _ => cases e'
  cases dy with
  | str zz =>
    cases dx with
    | str s =>
      have e' : (oneSign s).map (fun c => EV.val (.bl (neg != decide (c ∈ zz.cps.toList)))) = some ev := e
      cases q : oneSign s with
      | none => rw [q] at e'; cases e'
      | some c =>
        rw [q] at e'; cases e'
        have h1 : x = _ := hx.rep z.exF; have h2 : y = _ := hy.rep z.exF
        rw [oneSign_ok q] at h1
        exact .inr (.inl ⟨c, zz, h1, h2, p F _ H (Same.refl F) z rfl⟩)
    | _ => cases e
  | dct ks vs =>
    have e' : (keyOf dx).map (fun k => EV.val (.bl (neg != (dGet ks vs k).isSome))) = some ev := e
    cases q : keyOf dx with
    | none => rw [q] at e'; cases e'
    | some k =>
      rw [q] at e'; cases e'
      obtain ⟨a, ws, rfl, ⟨kvs, h1, rfl, rfl⟩, h4⟩ := hy.dct z.exF
      have hk := keyOf_ok q (hx.rep z.exF)
      subst hk
      have g := dGet_ok k h4
      refine .inr (.inr ⟨a, valV kvs k, rfl, DGet.k h1, ?_⟩)
      have e2 : (dGet (kvs.map fun p => keyD p.1) vs k).isSome = (valV kvs k).isSome := by
        cases q2 : dGet (kvs.map fun p => keyD p.1) vs k with
        | none => rw [g.2 q2]; rfl
        | some d => obtain ⟨v, h, _⟩ := g.1 d q2; rw [h]; rfl
      rw [← e2]
      exact p F _ H (Same.refl F) z rfl
  | _ => exact seq hy e
/-! ### x[i] -/
def rIx4 (K : PySem.W.Frag) : R2 := fun x y H Q => (rIxL K x y H Q ∨ (rIxT K x y H Q ∨ rIxS x y H Q)) ∨ ∃ a v, x = .ref a ∧ DGet H a y (some v) ∧ Q v H
theorem ix_dict (hu : X.A.units + 1 < cLine) : IxR X (fun x y H Q => ∃ a v, x = .ref a ∧ DGet H a y (some v) ∧ Q v H) := by
  intro value slice pins s σ H x y v u Q I rx ry h hs
  obtain ⟨a, w, rfl, g, q⟩ := h
  cases rx
  exact tail_any (dict_typeIs I g) PySem.F.slot_dict_getitem.lookup (d_getItem hu I g ry fun w' s' I' r' => ⟨w, H, I', r', q⟩) hs
theorem ix4 (hu : X.A.units + 1 < cLine) : IxR X (rIx4 X.K) := (ix_list.or (ix_tup.or ix_str)).or (ix_dict hu)
def opIx : D → D → Option EV
  | .tup xs, .int i => (atI xs i).map .val
  | .lst xs, .int i => (atI xs i).map .val
  | .str s, .int i => if s.length ≤ 16777216 then (atI s.cps.toList i).map fun c => .val (.str ⟨#[c]⟩) else none
  | .dct ks vs, k => match keyOf k with
    | some k => (dGet ks vs k).map .val
    | none => none
  | _, _ => none
theorem atI_reps {F : Hp} {ds : List D} {vs : List V} {i : Int} {d : D} (r : Reps G F ds vs) (e : atI ds i = some d) : ∃ v, atI vs i = some v ∧ Rep G F d v := by
  unfold atI at e ⊢
  rw [← r.length]
  cases q : ixN ds.length i with
  | none => rw [q] at e; cases e
  | some j => rw [q] at e; exact r.get e
theorem opd_ix : OpD G opIx (rIx4 G.K) := by
  intro B F env S σ H x y dx dy ev Q z hx hy e p
  unfold opIx at e
  split at e
  · rename_i xs i
    cases q : atI xs i with
    | none => rw [q] at e; cases e
    | some d =>
      rw [q] at e; cases e
      obtain ⟨a, vs, rfl, ha, ra⟩ := hx.tup
      obtain ⟨v, hv, rv⟩ := atI_reps ra q
      exact .inl (.inr (.inl ⟨a, vs, i, v, rfl, hy.rep z.exF, sqT_mono z.exF ha.sq, hv, p F _ H (Same.refl F) z rv⟩))
  · rename_i xs i
    cases q : atI xs i with
    | none => rw [q] at e; cases e
    | some d =>
      rw [q] at e; cases e
      obtain ⟨a, vs, rfl, ha, ra⟩ := hx.lst z.exF
      obtain ⟨v, hv, rv⟩ := atI_reps ra q
      exact .inl (.inl ⟨a, vs, i, v, rfl, hy.rep z.exF, .inl ha, hv, p F _ H (Same.refl F) z rv⟩)
  · rename_i s i
    split at e
    · cases q : atI s.cps.toList i with
      | none => rw [q] at e; cases e
      | some c =>
        rw [q] at e; cases e
        exact .inl (.inr (.inr ⟨s, i, c, hx.rep z.exF, hy.rep z.exF, by rw [sizeLine_eq]; assumption, q, p F _ H (Same.refl F) z rfl⟩))
    · cases e
  · rename_i ks vs
    cases q : keyOf dy with
    | none => simp only [q] at e; cases e
    | some j =>
      simp only [q] at e
      cases q2 : dGet ks vs j with
      | none => rw [q2] at e; cases e
      | some d =>
        rw [q2] at e; cases e
        obtain ⟨a, ws, rfl, ⟨kvs, h1, rfl, rfl⟩, h4⟩ := hx.dct z.exF
        have hk := keyOf_ok q (hy.rep z.exF)
        subst hk
        obtain ⟨v, hv, rv⟩ := (dGet_ok j h4).1 d q2
        exact .inr ⟨a, v, rfl, by rw [← hv]; exact DGet.k h1, p F _ H (Same.refl F) z rv⟩
  · cases e
/-! ### slices -/
variable {W : WX}
def OT (G : Gc) (W : WX) (m : M (Option Int)) : TO := fun σ H Q => ∃ B F env S, Zok G B F env S σ H ∧ match m env S with
  | .ok o env S => ∀ F' H', Same F F' → Zok G B F' env S σ H' → Q o H'
  | .err x env S => ErrE G B W F σ x env S
  | .bad => False
def oNone : M (Option Int) := fun e S => .ok none e S
def asI : D → Option Int
  | .int i => some i
  | _ => none
def oSome (m : EM) : M (Option Int) := m.then fun a => fun e S => match (dat e a).bind asI with
  | some i => .ok (some i) e S
  | none => .bad
def eSl (f : D → Option Int → Option Int → Option EV) (m : EM) (ml mh : M (Option Int)) : EM := m.then fun a => ml.then fun l => mh.then fun h => fun e S => match dat e a.look with
  | some d => ofO (f d l h) e S
  | none => .bad
theorem pd_onone : PO X none (OT G W oNone) := po_none.imp fun σ H Q ⟨B, F, env, S, z, p⟩ => p F H (Same.refl F) z
theorem pd_osome {e : Expr} {m : EM} (h : PE X e (ET G W m)) : PO X (some e) (OT G W (oSome m)) := (po_some h).imp fun σ H Q ⟨B, F, env, S, z, p⟩ => by
  refine ⟨B, F, env, S, z, ?_⟩
  cases e1 : m env S with
  | bad => simp only [oSome, M.then, e1, RR.bind] at p
  | err x env1 S1 => simp only [oSome, M.then, e1, RR.bind] at p; exact p
  | ok ev env1 S1 =>
    intro F1 v H1 s1 z1 q1
    simp only [oSome, M.then, e1, RR.bind] at p
    cases e2 : dat env1 ev with
    | none => simp only [e2, Option.bind] at p
    | some d =>
      have q := (dat_rep z1 q1 e2).rep z1.exF
      cases d with
      | int i => simp only [e2, Option.bind, asI] at p; exact ⟨i, q, p F1 H1 s1 z1⟩
      | _ => simp only [e2, Option.bind, asI] at p
def SlD (G : Gc) (f : D → Option Int → Option Int → Option EV) (r : V → Option Int → Option Int → Hp → VK → Prop) : Prop := ∀ (B : Bs) (F : Hp) (env : List Sl) (S : DS) (σ : L2.St) (H : Hp) (x : V) (dx : D) (lo hi : Option Int) (ev : EV) (Q : VK),
  Zok G B F env S σ H → RepL G F H dx x → f dx lo hi = some ev → PostV G B F σ Q ev env S → r x lo hi H Q
theorem pd_slice {e : Expr} {lo hi : Option Expr} {m : EM} {ml mh : M (Option Int)} {f : D → Option Int → Option Int → Option EV} {r : V → Option Int → Option Int → Hp → VK → Prop} {pos p2 : Pos}
    (hr : SlR X r) (hd : SlD G f r) (he : PE X e (ET G W m)) (hl : PO X lo (OT G W ml)) (hu : PO X hi (OT G W mh)) : PE X (.Subscript e (.Slice lo hi none p2) pos) (ET G W (eSl f m ml mh)) :=
  (pe_slice hr he hl hu).imp fun σ H Q ⟨B, F, env, S, z, p⟩ => by
    refine ⟨B, F, env, S, z, (Pst.bind (r := m env S) p).imp ?_⟩
    rintro x H1 ⟨F1, env1, S1, xa, s1, z1, q1, p1⟩
    obtain ⟨F2, s2, z2, q2, nf⟩ := look_ok z1 q1
    refine ⟨B, F2, env1, S1, z2, ?_⟩
    have p2 := p1.mono s2
    cases e1 : ml env1 S1 with
    | bad => simp only [M.then, e1, RR.bind] at p2; exact p2
    | err x env1 S1 => simp only [M.then, e1, RR.bind] at p2; exact p2
    | ok l env3 S3 =>
      simp only [M.then, e1, RR.bind] at p2
      intro F3 H3 s3 z3
      refine ⟨B, F3, env3, S3, z3, ?_⟩
      have p3 := p2.mono s3
      cases e2 : mh env3 S3 with
      | bad => simp only [e2] at p3; exact p3
      | err x env1 S1 => simp only [e2] at p3; exact p3
      | ok h env4 S4 =>
        simp only [e2] at p3
        intro F4 H4 s4 z4
        have q4 := q2.keep (env' := env4) (S' := S4) (H' := H4) nf (s3.trans s4)
        have p4 := p3.mono s4
        cases e3 : dat env4 xa.look with
        | none => simp only [e3] at p4; exact p4.elim
        | some d =>
          simp only [e3] at p4
          cases e5 : f d l h with
          | none => simp only [e5, ofO] at p4; exact p4.elim
          | some ev =>
            simp only [e5, ofO] at p4
            exact hd B F4 env4 S4 σ H4 x d l h ev Q z4 (dat_rep z4 q4 e3) e5 p4
def cutD {α : Type} (xs : List α) (lo hi : Option Int) : List α := (xs.drop (HT.sIx xs.length 0 lo)).take (HT.sIx xs.length xs.length hi - HT.sIx xs.length 0 lo)
/-- t[lo:hi]: the whole of it is t itself -/
def rSlF (K : PySem.W.Frag) : V → Option Int → Option Int → Hp → VK → Prop := fun x lo hi H Q => ∃ a xs, x = .ref a ∧ SqT K H a xs ∧
  (HT.sIx xs.length 0 lo = 0 ∧ HT.sIx xs.length xs.length hi = xs.length → Q (.ref a) H) ∧ (¬ (HT.sIx xs.length 0 lo = 0 ∧ HT.sIx xs.length xs.length hi = xs.length) → ∀ p o, H p = none → o.dict = none → Q (.ref p) (upd H p (.frz o (.tup (cutV xs lo hi)))))
theorem sl_tupF : SlR X (rSlF X.K) := by
  intro pins s σ H x v vl vu lo hi sl Q I rx hs pl pu h
  obtain ⟨a, xs, rfl, hx, q1, q2⟩ := h
  by_cases hw : HT.sIx xs.length 0 lo = 0 ∧ HT.sIx xs.length xs.length hi = xs.length
  · exact sl_tupA pins s σ H _ v vl vu lo hi sl Q I rx hs pl pu ⟨a, xs, rfl, hx, q1, fun n => absurd hw n⟩
  · cases rx
    obtain ⟨its, r, ht, hz⟩ := I.tuple hx
    have hlen : its.toArray.size = xs.length := by rw [List.size_toArray]; exact r.length.symm
    refine ⟨"tuple", _, PyProof.Rows.slot_tuple_getitem.lookup, ht.typeIs, ?_⟩
    refine HT.getItem_tuple_cut ht hs pl pu (by rw [hlen]; exact hw) ?_ (by rw [hlen]; exact hz)
    rw [hlen]
    exact ⟨.ref s.heap.objs.size, _, I.laidT (t' := s.toks) ⟨rfl, _, rfl⟩ ((r.drop (HT.sIx xs.length 0 lo)).take (HT.sIx xs.length xs.length hi - HT.sIx xs.length 0 lo)) (Nat.le_trans (cutV_length xs lo hi) hz), rfl, q2 hw _ _ (I.hok.fresh (Nat.le_refl _)) rfl⟩
def rSl3 (K : PySem.W.Frag) : V → Option Int → Option Int → Hp → VK → Prop := fun x lo hi H Q => rSlF K x lo hi H Q ∨ (rSlL K x lo hi H Q ∨ rSlS x lo hi H Q)
theorem sl3 : SlR X (rSl3 X.K) := sl_tupF.or (sl_list.or sl_str)
def opSl : D → Option Int → Option Int → Option EV
  | .tup xs, lo, hi => some (.val (.tup (cutD xs lo hi)))
  | .lst xs, lo, hi => some (.fresh (.lst (cutD xs lo hi)))
  | .str s, lo, hi => if s.length ≤ 16777216 then some (.val (.str (cutS s lo hi))) else none
  | _, _, _ => none
theorem cut_reps {F : Hp} {ds : List D} {vs : List V} (r : Reps G F ds vs) (lo hi : Option Int) : Reps G F (cutD ds lo hi) (cutV vs lo hi) := by
  unfold cutD cutV
  rw [← r.length]
  exact (r.drop _).take _
theorem cutD_whole {α : Type} {xs : List α} {lo hi : Option Int} (h : HT.sIx xs.length 0 lo = 0 ∧ HT.sIx xs.length xs.length hi = xs.length) : cutD xs lo hi = xs := by
  unfold cutD
  rw [h.1, h.2]; simp
theorem opd_sl : SlD G opSl (rSl3 G.K) := by
  intro B F env S σ H x dx lo hi ev Q z hx e p
  unfold opSl at e
  split at e
  · cases e
    obtain ⟨a, vs, rfl, ha, ra⟩ := hx.tup
    refine .inl ⟨a, vs, rfl, sqT_mono z.exF ha.sq, fun hw => ?_, fun hw q o hq ho => ?_⟩
    · rw [cutD_whole (by rw [ra.length]; exact hw)] at p
      exact p F _ H (Same.refl F) z ⟨a, vs, rfl, ha, ra⟩
    · obtain ⟨F3, s3, z3, r3⟩ := new_tup z hq ho (cut_reps ra lo hi)
      exact p F3 _ _ s3 z3 r3
  · cases e
    obtain ⟨a, vs, rfl, ha, ra⟩ := hx.lst z.exF
    refine .inr (.inl ⟨a, vs, rfl, .inl ha, fun q hq => ?_⟩)
    obtain ⟨z3, r3⟩ := new_lst z hq (cut_reps ra lo hi)
    exact p F _ _ (Same.refl F) z3 r3
  · split at e
    · cases e
      exact .inr (.inr ⟨_, hx.rep z.exF, by rw [sizeLine_eq]; assumption, p F _ H (Same.refl F) z rfl⟩)
    · cases e
  · cases e
/-- xs[::-1] of a list -/
def eRev (m : EM) : EM := eUn (fun d => match d with
  | .lst xs => some (.fresh (.lst xs.reverse))
  | _ => none) m
theorem pd_rev {e : Expr} {m : EM} {k : Nat} {p1 p2 p3 pos : Pos} (he : PE X e (ET G W m)) : PE X (.Subscript e (.Slice none none (some (.UnaryOp .USub (.Constant (.int 1) k p1) p2)) p3) pos) (ET G W (eRev m)) :=
  (pe_revL he).imp fun σ H Q ⟨B, F, env, S, z, p⟩ => by
    refine ⟨B, F, env, S, z, (Pst.bind (r := m env S) p).imp ?_⟩
    rintro x H1 ⟨F1, env1, S1, xa, s1, z1, q1, p1⟩
    cases e1 : dat env1 xa with
    | none => simp only [e1] at p1; exact p1.elim
    | some dx =>
      simp only [e1] at p1
      cases dx with
      | lst xs =>
        simp only [ofO] at p1
        obtain ⟨a, vs, rfl, ha, ra⟩ := (dat_rep z1 q1 e1).lst z1.exF
        refine ⟨a, vs, rfl, .inl ha, fun q hq => ?_⟩
        obtain ⟨z3, r3⟩ := new_lst z1 hq ra.reverse
        exact p1 F1 _ _ (Same.refl F1) z3 r3
      | _ => exact p1.elim
/-! ### * -/
/-- a text of one sign, so often -/
def rMulS : R2 := fun x y H Q => ∃ (c : Nat) (n : Int), x = .str ⟨#[c]⟩ ∧ y = .int n ∧ 2 ≤ n ∧ n ≤ 100000 ∧ Q (.str ⟨(List.replicate n.toNat c).toArray⟩) H
theorem rep_one (c : Nat) : ∀ (n : Nat) (a : Array Nat), (List.replicate n #[c]).foldl (· ++ ·) a = a ++ (List.replicate n c).toArray
  | 0, a => by simp
  | n + 1, a => by
    rw [List.replicate_succ, List.foldl_cons, rep_one c n, List.replicate_succ]
    apply Array.ext'; simp
theorem op_mulS : OpR X (binaryOp .Mult) rMulS := by
  intro pins s σ H x y v u Q I rx ry h
  obtain ⟨c, n, rfl, rfl, h1, h2, q⟩ := h
  obtain ⟨t, rfl⟩ := rx
  obtain ⟨t', rfl⟩ := ry
  have e2 : (⟨(List.replicate n.toNat (⟨#[c]⟩ : Str).cps).foldl (· ++ ·) #[]⟩ : Str) = ⟨(List.replicate n.toNat c).toArray⟩ := by
    rw [show (⟨#[c]⟩ : Str).cps = #[c] from rfl, rep_one]; simp
  have hz : (n == 1 || (⟨#[c]⟩ : Str).length == 0) = false := by
    rw [show ((⟨#[c]⟩ : Str).length == 0) = false from rfl, Bool.or_false]
    exact beq_eq_false_iff_ne.mpr (by omega)
  refine PySem.P.mul_str (by rw [decide_eq_false (by omega), decide_eq_false (by omega)]; rfl) (fun _ _ => ?_) (fun _ _ => ?_) ?_
  · show ¬ ((1 : Int) > (2 ^ 63 - 1) / n)
    have : (1 : Int) ≤ (2 ^ 63 - 1) / n := (Int.le_ediv_iff_mul_le (by omega)).mpr (by omega)
    omega
  · show decide (1 * n.toNat > sizeLine) = false
    rw [sizeLine_eq]
    exact decide_eq_false (by omega)
  · rw [if_neg (by omega), hz, if_neg Bool.false_ne_true, e2]
    refine ⟨?_, .str _, H, I.tok _, ⟨_, rfl⟩, q⟩
    show (List.replicate n.toNat c).toArray.size ≤ sizeLine
    rw [sizeLine_eq, List.size_toArray, List.length_replicate]
    omega
theorem op_repL : OpR X (binaryOp .Mult) rRepL := by
  intro pins s σ H x y v u Q I rx ry h
  obtain ⟨l, k, xs, rfl, rfl, hH, h1, h2, hz, q⟩ := h
  cases rx
  obtain ⟨t, rfl⟩ := ry
  obtain ⟨z, its, n, r, hl, e⟩ := I.lstR hH
  have b1 : its.toArray.size * k.toNat ≤ sizeLine := by rw [List.size_toArray, ← hl]; exact hz
  have b2 : ¬ its.toArray.size * k.toNat > (2 ^ 63 - 1) / 8 := fun w => by
    have : (sizeLine : Nat) ≤ (2 ^ 63 - 1) / 8 := by decide
    omega
  have b3 : ¬ (!Builtin.List.listFitsIndex k) = true := by rw [fitsIndex_both h1 h2]; exact Bool.false_ne_true
  have b4 : ¬ Builtin.List.listTooLong (its.toArray.size * k.toNat) = true := by rw [notLongL b1]; exact Bool.false_ne_true
  have b5 : List.foldl (fun x1 x2 => x1 ++ x2) #[] (List.replicate (if its.toArray.isEmpty = true then 0 else k.toNat) its.toArray) = (List.replicate k.toNat its).flatten.toArray := by
    have f0 : ∀ m : Nat, List.foldl (fun x1 x2 => x1 ++ x2) #[] (List.replicate m its.toArray) = (List.replicate m its).flatten.toArray := fun m => by
      have := foldl_rep its m []
      rw [List.nil_append] at this
      exact this
    rw [f0]
    cases its with
    | nil => simp
    | cons a r' => rw [if_neg (by simp)]
  refine wpAny_binaryOp_repeat_ref (T := "list") (U := "int") (by decide) ⟨_, e, rfl⟩ (fun s' => typeIs_int s' k t) noFill_list_mul F.fills_int_mul F.slot_int_rmul repeat_list F.slot_int_index.lookup
    (call_meets F.slot_int_rmul (typeIs_int s k t) F.entry_int_rmul (F.args_int_rmul_2 _ _) (int___rmul___int_list k t l its.toArray n)
      ⟨e, rfl, ⟨_, e, rfl⟩, call_meets F.slot_list_mul ⟨_, e, rfl⟩ F.entry_list_mul (F.args_list_mul_2 _ _) (AutoListH.list___mul___list_int_3 l its.toArray n k t b3 b2 b4) ⟨e, ?_⟩⟩)
  rw [b5]
  exact ⟨.ref _, _, I.lnew (t' := s.toks) (r.rep k.toNat) (by rw [PyProof.Rows.lm_len_rep_flat, Nat.mul_comm]; exact hz), rfl, q _ I.fresh⟩
def rMul (K : PySem.W.Frag) : R2 := fun x y H Q => rMulW x y H Q ∨ (rRepF K x y H Q ∨ (rRepL x y H Q ∨ rMulS x y H Q))
theorem op_mulW' : OpR X (binaryOp .Mult) rMulW := op_mulW
theorem op_mulD : OpR X (binaryOp .Mult) (rMul X.K) := op_mulW'.or (op_repF.or (op_repL.or op_mulS))
def opMul : D → D → Option EV
  | .int i, .int j => if mulOk i j = true then some (.val (.int (i * j))) else none
  | .tup xs, .int k => if xs ≠ [] ∧ 2 ≤ k ∧ k ≤ 1000 ∧ xs.length ≤ 100 then some (.val (.tup (List.replicate k.toNat xs).flatten)) else none
  | .lst xs, .int k => if 0 ≤ k ∧ k ≤ 1000 ∧ xs.length ≤ 100 then some (.fresh (.lst (List.replicate k.toNat xs).flatten)) else none
  | .str s, .int k => match oneSign s with
    | some c => if 2 ≤ k ∧ k ≤ 100000 then some (.val (.str ⟨(List.replicate k.toNat c).toArray⟩)) else none
    | none => none
  | _, _ => none
theorem reps_rep {F : Hp} {ds : List D} {vs : List V} (r : Reps G F ds vs) : ∀ n : Nat, Reps G F (List.replicate n ds).flatten (List.replicate n vs).flatten
  | 0 => rfl
  | n + 1 => by rw [List.replicate_succ, List.replicate_succ, List.flatten_cons, List.flatten_cons]; exact r.append (reps_rep r n)
theorem ne_nil_of_reps {F : Hp} {ds : List D} {vs : List V} (r : Reps G F ds vs) (h : ds ≠ []) : vs ≠ [] := fun e => by
  subst e
  have := r.length
  exact h (List.length_eq_zero_iff.mp this)
theorem opd_mul : OpD G opMul (rMul G.K) := by
  intro B F env S σ H x y dx dy ev Q z hx hy e p
  unfold opMul at e
  split at e
  · rename_i i j
    split at e
    · rename_i h
      cases e
      exact .inl ⟨_, _, hx.rep z.exF, hy.rep z.exF, (of_decide_eq_true (p := i.natAbs.log2 + j.natAbs.log2 < 1000000) h), p F _ H (Same.refl F) z rfl⟩
    · cases e
  · rename_i xs k
    split at e
    · rename_i h
      cases e
      obtain ⟨a, vs, rfl, ha, ra⟩ := hx.tup
      have l1 := ra.length
      refine .inr (.inl ⟨a, k, vs, rfl, hy.rep z.exF, sqT_mono z.exF ha.sq, ne_nil_of_reps ra h.1, h.2.1, h.2.2.1, by omega, fun q o hq ho => ?_⟩)
      obtain ⟨F3, s3, z3, r3⟩ := new_tup z hq ho (reps_rep ra k.toNat)
      exact p F3 _ _ s3 z3 r3
    · cases e
  · rename_i xs k
    split at e
    · rename_i h
      cases e
      obtain ⟨a, vs, rfl, ha, ra⟩ := hx.lst z.exF
      have l1 := ra.length
      refine .inr (.inr (.inl ⟨a, k, vs, rfl, hy.rep z.exF, ha, by omega, by omega, ?_, fun q hq => ?_⟩))
      · rw [sizeLine_eq]
        have a1 : vs.length * k.toNat ≤ 100 * 1000 := Nat.mul_le_mul (by omega) (by omega)
        omega
      · obtain ⟨z3, r3⟩ := new_lst z hq (reps_rep ra k.toNat)
        exact p F _ _ (Same.refl F) z3 r3
    · cases e
  · rename_i s k
    cases q : oneSign s with
    | none => simp only [q] at e; cases e
    | some c =>
      simp only [q] at e
      split at e
      · rename_i h
        cases e
        have h1 : x = _ := hx.rep z.exF
        rw [oneSign_ok q] at h1
        exact .inr (.inr (.inr ⟨c, k, h1, hy.rep z.exF, h.1, h.2, p F _ H (Same.refl F) z rfl⟩))
      · cases e
  · cases e
end
end PD

set_option Elab.async false
set_option linter.all false
set_option maxRecDepth 100000
set_option maxHeartbeats 4000000
/-! PD4: statements and loops over plain data. -/
namespace PD
open PySem PySem.Spec PyProof.Rows L2

inductive SR where
  | nx (e : List Sl) (S : DS) | rt (a : EV) (e : List Sl) (S : DS) | bk (e : List Sl) (S : DS) | ct (e : List Sl) (S : DS)
  | err (x : Xn) (e : List Sl) (S : DS) | bad
abbrev SM := List Sl → DS → SR
def RR.toS {α : Type} : RR α → (α → SM) → SR
  | .ok a e S, k => k a e S
  | .err x e S, _ => .err x e S
  | .bad, _ => .bad
def M.thenS {α : Type} (m : M α) (k : α → SM) : SM := fun e S => (m e S).toS k

section
variable (G : Gc) (B : Bs) (W : WX)
def NxOk (F : Hp) (P : L2.St → Hp → Prop) (env : List Sl) (S : DS) : Prop := ∀ F' σ' H', Same F F' → Zok G B F' env S σ' H' → P σ' H'
def PstS (F : Hp) (D : Ends) : SR → Prop
  | .nx env S => NxOk G B F D.nx env S
  | .bk env S => NxOk G B F D.bk env S
  | .ct env S => NxOk G B F D.ct env S
  | .rt ev env S => ∀ F' σ' v H', Same F F' → Zok G B F' env S σ' H' → EVok G B F' env S σ' H' v ev → D.rt v H'
  | .err x env S => ErrOk G B W F x env S
  | .bad => False
end
def ST (G : Gc) (W : WX) (m : SM) : TS := fun D σ H => ∃ B F env S, Zok G B F env S σ H ∧ PstS G B W F D (m env S)

section
variable {G : Gc} {B : Bs} {W : WX} {F F' : Hp} {env : List Sl} {S : DS} {σ : L2.St} {H H' : Hp} {D : Ends}
theorem NxOk.mono {P : L2.St → Hp → Prop} (h : NxOk G B F P env S) (e : Same F F') : NxOk G B F' P env S := fun F'' σ' H' s z => h F'' σ' H' (e.trans s) z
theorem PstS.mono {r : SR} (h : PstS G B W F D r) (e : Same F F') : PstS G B W F' D r := by
  cases r with
  | nx env S => exact NxOk.mono h e
  | bk env S => exact NxOk.mono h e
  | ct env S => exact NxOk.mono h e
  | rt ev env S => exact fun F'' σ' v H' s z q => h F'' σ' v H' (e.trans s) z q
  | err x env S => exact ErrOk.mono h e
  | bad => exact h
theorem Pst.bindS {r : RR EV} {k : EV → SM} (p : PstS G B W F D (r.toS k)) : Pst G B W F σ (fun v H1 => ∃ F1 env1 S1 ev, Same F F1 ∧ Zok G B F1 env1 S1 σ H1 ∧ EVok G B F1 env1 S1 σ H1 v ev ∧ PstS G B W F1 D (k ev env1 S1)) r := by
  cases r with
  | bad => exact p
  | err x env1 S1 => exact ErrOk.at p
  | ok ev env1 S1 => exact fun F' v H' s z' q => ⟨F', env1, S1, ev, s, z', q, PstS.mono (r := k ev env1 S1) p s⟩
theorem PstB.bindS {r : RR Bool} {k : Bool → SM} (p : PstS G B W F D (r.toS k)) : PstB G B W F σ (fun b H1 => ∃ F1 env1 S1, Same F F1 ∧ Zok G B F1 env1 S1 σ H1 ∧ PstS G B W F1 D (k b env1 S1)) r := by
  cases r with
  | bad => exact p
  | err x env1 S1 => exact ErrOk.at p
  | ok ev env1 S1 => exact fun F' H' s z' => ⟨F', env1, S1, s, z', PstS.mono (r := k ev env1 S1) p s⟩
theorem PstA.bindS {r : RR (List EV)} {k : List EV → SM} (p : PstS G B W F D (r.toS k)) : PstA G B W F σ (fun vs H1 => ∃ F1 env1 S1 xs, Same F F1 ∧ Zok G B F1 env1 S1 σ H1 ∧ EVs G B F1 env1 S1 σ H1 vs xs ∧ PstS G B W F1 D (k xs env1 S1)) r := by
  cases r with
  | bad => exact p
  | err x env1 S1 => exact ErrOk.at p
  | ok ev env1 S1 => exact fun F' v H' s z' q => ⟨F', env1, S1, ev, s, z', q, PstS.mono (r := k ev env1 S1) p s⟩
end

/-! ### the statements -/
def sSkip : SM := fun e S => .nx e S
def sSeq (a b : SM) : SM := fun e S => match a e S with
  | .nx e S => b e S
  | r => r
def sBad : SM := fun _ _ => .bad
def sBrk : SM := fun e S => .bk e S
def sCnt : SM := fun e S => .ct e S
def sDrop (m : EM) : SM := m.thenS fun _ => sSkip
def sRet (m : EM) : SM := m.thenS fun a => fun e S => .rt a e S
def sRetN : SM := fun e S => .rt (.val .non) e S
def sIf (c : M Bool) (a b : SM) : SM := c.thenS fun k => if k = true then a else b
/-- name = value -/
def setE (i : Nat) (a : EV) : SM := fun e S => match a with
  | .val d => .nx (e.set i (.frz d)) S
  | .fresh d => .nx (e.set i (.own d)) S
  | .slot j => match take e (.slot j) with
    | some (d, e') => .nx (e'.set i (.frz d)) S
    | none => .bad
def sSet (i : Nat) (m : EM) : SM := m.thenS fun a => setE i a
/-- targets of data: a name, a tuple of targets -/
inductive Tg where
  | n (i : Nat) | t (ts : List Tg)
mutual
def Tg.vars : Tg → List Nat
  | .n i => [i]
  | .t ts => Tg.varsL ts
def Tg.varsL : List Tg → List Nat
  | [] => []
  | u :: us => u.vars ++ Tg.varsL us
end
mutual
def bindT : Tg → D → List Sl → Option (List Sl)
  | .n i, d, e => some (e.set i (.frz d))
  | .t ts, d, e => match d with
    | .tup ds => bindTs ts ds e
    | _ => none
def bindTs : List Tg → List D → List Sl → Option (List Sl)
  | [], [], e => some e
  | t :: ts, d :: ds, e => match bindT t d e with
    | some e' => bindTs ts ds e'
    | none => none
  | _, _, _ => none
end
theorem bindTs_len : ∀ {ts : List Tg} {ds : List D} {e e' : List Sl}, bindTs ts ds e = some e' → ds.length = ts.length
  | [], [], _, _, _ => rfl
  | t :: ts, d :: ds, e, e', h => by
    unfold bindTs at h
    cases e2 : bindT t d e with
    | none => rw [e2] at h; cases h
    | some env1 => rw [e2] at h; simp [bindTs_len h]
  | [], _ :: _, _, _, h => by cases h
  | _ :: _, [], _, _, h => by cases h
def sBind (t : Tg) (m : EM) : SM := m.thenS fun a => fun e S => match take e a with
  | some (d, e') => match bindT t d e' with
    | some e'' => .nx e'' S
    | none => .bad
  | none => .bad
/-- a, b = x, y -/
def sPar (i j : Nat) (m : M (List EV)) : SM := m.thenS fun xs => fun e S => match takes e xs with
  | some ([d, d'], e') => .nx ((e'.set i (.frz d)).set j (.frz d')) S
  | _ => .bad
def forL (t : Tg) (body : SM) : List D → SM
  | [] => sSkip
  | d :: ds => fun e S => match bindT t d e with
    | some e1 => match body e1 S with
      | .nx e2 S2 => forL t body ds e2 S2
      | .ct e2 S2 => forL t body ds e2 S2
      | .bk e2 S2 => .nx e2 S2
      | r => r
    | none => .bad
def sFor (t : Tg) (it : M (List D)) (body : SM) : SM := it.thenS fun ds => forL t body ds
def whL (c : M Bool) (body : SM) : Nat → SM
  | 0 => sBad
  | n + 1 => c.thenS fun k => if k = true then fun e S => match body e S with
      | .nx e2 S2 => whL c body n e2 S2
      | .ct e2 S2 => whL c body n e2 S2
      | .bk e2 S2 => .nx e2 S2
      | r => r
    else sSkip

section
variable {X : Cx} {G : Gc} {W : WX} {st : Stmt} {a b c e : Expr} {es : List Expr} {rest : List Stmt} {ma mb : EM} {mc : M Bool} {mr : M (List EV)} {m k : SM} {pos : Pos}
theorem pds_skip (h : PS X st tNext) : PS X st (ST G W sSkip) := h.imp fun D σ H ⟨B, F, env, S, z, p⟩ => p F σ H (Same.refl F) z
theorem pds_nil : PSs X [] (ST G W sSkip) := pss_nil.imp fun D σ H ⟨B, F, env, S, z, p⟩ => p F σ H (Same.refl F) z
theorem pds_bad : PS X st (ST G W sBad) := ps_never.imp fun D σ H ⟨B, F, env, S, z, p⟩ => p
theorem pdss_bad {sts : List Stmt} : PSs X sts (ST G W sBad) := pss_never.imp fun D σ H ⟨B, F, env, S, z, p⟩ => p
theorem pds_brk : PS X (.Break pos) (ST G W sBrk) := ps_break.imp fun D σ H ⟨B, F, env, S, z, p⟩ => p F σ H (Same.refl F) z
theorem pds_cnt : PS X (.Continue pos) (ST G W sCnt) := ps_continue.imp fun D σ H ⟨B, F, env, S, z, p⟩ => p F σ H (Same.refl F) z
theorem pds_cons (h1 : PS X st (ST G W m)) (h2 : PSs X rest (ST G W k)) : PSs X (st :: rest) (ST G W (sSeq m k)) := (pss_cons h1 h2).imp fun D σ H ⟨B, F, env, S, z, p⟩ => by
  refine ⟨B, F, env, S, z, ?_⟩
  unfold sSeq at p
  cases q : m env S with
  | nx e1 S1 => rw [q] at p; exact fun F' σ' H' s z' => ⟨B, F', e1, S1, z', PstS.mono (r := k e1 S1) p s⟩
  | bk e1 S1 => rw [q] at p; exact p
  | ct e1 S1 => rw [q] at p; exact p
  | rt ev e1 S1 => rw [q] at p; exact p
  | err x e1 S1 => rw [q] at p; exact p
  | bad => rw [q] at p; exact p
theorem pds_one (h1 : PS X st (ST G W m)) : PSs X [st] (ST G W m) := pss_one h1
theorem pds_drop (h : PE X a (ET G W ma)) (hs : swapsWith a none pos.line X.env = pure false := by rfl) : PS X (.Expr a pos) (ST G W (sDrop ma)) := (ps_expr h hs).imp fun D σ H ⟨B, F, env, S, z, p⟩ => by
  refine ⟨B, F, env, S, z, (Pst.bindS (r := ma env S) p).imp ?_⟩
  rintro v H1 ⟨F1, env1, S1, ev, s1, z1, q1, p1⟩
  exact p1 F1 σ H1 (Same.refl F1) z1
theorem pds_ret (h : PE X a (ET G W ma)) : PS X (.Return (some a) pos) (ST G W (sRet ma)) := (ps_ret h).imp fun D σ H ⟨B, F, env, S, z, p⟩ => by
  refine ⟨B, F, env, S, z, (Pst.bindS (r := ma env S) p).imp ?_⟩
  rintro v H1 ⟨F1, env1, S1, ev, s1, z1, q1, p1⟩
  exact p1 F1 σ v H1 (Same.refl F1) z1 q1
theorem pds_retN : PS X (.Return none pos) (ST G W sRetN) := ps_retN.imp fun D σ H ⟨B, F, env, S, z, p⟩ => p F σ .non H (Same.refl F) z rfl
theorem pds_if {sa sb : List Stmt} (hc : PT X c (BT G W mc)) (ha : PSs X sa (ST G W m)) (hb : PSs X sb (ST G W k)) : PS X (.If c sa sb pos) (ST G W (sIf mc m k)) := (ps_if hc ha hb).imp fun D σ H ⟨B, F, env, S, z, p⟩ => by
  refine ⟨B, F, env, S, z, (PstB.bindS (r := mc env S) p).imp ?_⟩
  rintro b H1 ⟨F1, env1, S1, s1, z1, p1⟩
  cases b with
  | true => exact ⟨B, F1, env1, S1, z1, p1⟩
  | false => exact ⟨B, F1, env1, S1, z1, p1⟩
theorem setE_ok {B : Bs} {F : Hp} {env : List Sl} {S : DS} {σ : L2.St} {H : Hp} {D : Ends} {i : Nat} {v : V} {ev : EV} (z : Zok G B F env S σ H) (q : EVok G B F env S σ H v ev) (p : PstS G B W F D (setE i ev env S)) : D.nx (σ.set i (some v)) H := by
  cases ev with
  | val d => exact p F _ H (Same.refl F) (z.store i (sl := .frz d) ⟨v, rfl, q⟩ (fun _ _ e => by cases e))
  | fresh d =>
    obtain ⟨a, rfl, h1, h2, h3, h4, o⟩ := q
    refine p F _ H (Same.refl F) (z.store i (sl := .own d) ⟨a, rfl, h1, h2, h3, o⟩ (fun d' a' _ e => ?_))
    cases e
    exact h4
  | slot j =>
    unfold setE at p
    simp only at p
    cases e : take env (.slot j) with
    | none => rw [e] at p; exact p.elim
    | some r =>
      obtain ⟨d, env'⟩ := r
      rw [e] at p
      obtain ⟨F', s', z', r'⟩ := take_ok z q e
      exact p F' _ H s' (z'.store i (sl := .frz d) ⟨v, rfl, r'⟩ (fun _ _ e => by cases e))
/-- name = value -/
theorem pds_set {i : Nat} {x : Str} {pos' : Pos} (hN : X.N.Nodup) (hi : X.N[i]? = some x) (hx : Loc X.env.scope x) (he : PE X e (ET G W ma)) (hs : swapsWith e (some (.Name x pos')) pos.line X.env = pure false := by rfl) (hf : X.fn x = true ∨ X.env.scope.names.lookup x = some .local := by first | exact .inl rfl | exact .inr rfl | assumption) :
    PS X (.Assign [.Name x pos'] e pos) (ST G W (sSet i ma)) := (ps_set hN hi hx he hs hf).imp fun D σ H ⟨B, F, env, S, z, p⟩ => by
  refine ⟨B, F, env, S, z, (Pst.bindS (r := ma env S) p).imp ?_⟩
  rintro v H1 ⟨F1, env1, S1, ev, s1, z1, q1, p1⟩
  exact setE_ok z1 q1 p1
theorem pds_par {i j : Nat} {x y : Str} {px py pt : Pos} {kt k2 pt2} (hc : X.calm = true) (hN : X.N.Nodup) (hi : X.N[i]? = some x) (hj : X.N[j]? = some y) (hij : i ≠ j)
    (hx : X.env.scope.names.lookup x = some .local) (hy : X.env.scope.names.lookup y = some .local) (ha : PA X [a, b] (AT G W mr))
    (hw : swappedStores [.Tuple [.Name x px, .Name y py] kt pt] (.Tuple [a, b] k2 pt2) X.env = pure (some [x, y]))
    (hs : swapsWithSole [.Tuple [.Name x px, .Name y py] kt pt] (.Tuple [a, b] k2 pt2) pos.line X.env = pure false := by rfl) :
    PS X (.Assign [.Tuple [.Name x px, .Name y py] kt pt] (.Tuple [a, b] k2 pt2) pos) (ST G W (sPar i j mr)) := (ps_par hc hN hi hj hij hx hy ha hw hs).imp fun D σ H ⟨B, F, env, S, z, p⟩ => by
  refine ⟨B, F, env, S, z, (PstA.bindS (r := mr env S) p).imp ?_⟩
  rintro vs H1 ⟨F1, env1, S1, xs, s1, z1, q1, p1⟩
  cases e : takes env1 xs with
  | none => simp only [e] at p1; exact p1.elim
  | some r =>
    obtain ⟨ds, env2⟩ := r
    simp only [e] at p1
    match ds, e, p1 with
    | [d, d'], e, p1 =>
      obtain ⟨F2, s2, z2, r2⟩ := takes_ok z1 q1 e
      obtain ⟨v, r, e1, r3, w, r', e2, r4, e3⟩ := r2
      subst e1 e2 e3
      refine ⟨v, w, rfl, ?_⟩
      exact p1 F2 _ H1 s2 ((z2.store i (sl := .frz d) ⟨v, rfl, r3⟩ (fun _ _ e => by cases e)).store j (sl := .frz d') ⟨w, rfl, r4⟩ (fun _ _ e => by cases e))
    | [], _, p1 => exact p1.elim
    | [_], _, p1 => exact p1.elim
    | _ :: _ :: _ :: _, _, p1 => exact p1.elim

/-! #### targets -/
/-- σ' is σ but at vs -/
def Off (vs : List Nat) (σ σ' : L2.St) : Prop := σ'.length = σ.length ∧ ∀ i, i ∉ vs → σ'[i]? = σ[i]?
theorem Off.refl {vs : List Nat} {σ : L2.St} : Off vs σ σ := ⟨rfl, fun _ _ => rfl⟩
theorem Off.trans {vs ws : List Nat} {σ σ' σ'' : L2.St} (h : Off vs σ σ') (k : Off ws σ' σ'') : Off (vs ++ ws) σ σ'' := ⟨k.1.trans h.1, fun i hi => by
  rw [List.mem_append, not_or] at hi
  rw [k.2 i hi.2, h.2 i hi.1]⟩
def GT (G : Gc) (t : Tg) : TG := fun v σ H Q => ∃ B F env S d env', Zok G B F env S σ H ∧ Rep G F d v ∧ bindT t d env = some env' ∧ ∀ σ', Off t.vars σ σ' → Zok G B F env' S σ' H → Q σ' H
def GTs (G : Gc) (ts : List Tg) : TGs := fun vs σ H Q => ∃ B F env S ds env', Zok G B F env S σ H ∧ Reps G F ds vs ∧ bindTs ts ds env = some env' ∧ ∀ σ', Off (Tg.varsL ts) σ σ' → Zok G B F env' S σ' H → Q σ' H
theorem _root_.L2.PGs.imp {X : Cx} {e : List Expr} {t t' : TGs} (h : PGs X e t) (k : ∀ v σ H Q, t' v σ H Q → t v σ H Q) : PGs X e t' := ⟨fun pins s σ H v u Q I r hq => h.run pins s σ H v u Q I r (k v σ H Q hq)⟩
theorem pdg_name {i : Nat} {x : Str} (hN : X.N.Nodup) (hi : X.N[i]? = some x) (hx : Loc X.env.scope x) (hf : X.fn x = true ∨ X.env.scope.names.lookup x = some .local := by first | exact .inl rfl | exact .inr rfl | assumption) : PG X (.Name x pos) (GT G (.n i)) :=
  (pg_name hN hi hx hf).imp fun v σ H Q ⟨B, F, env, S, d, env', z, r, e, q⟩ => by
    cases e
    refine q _ ⟨by rw [List.length_set], fun j hj => ?_⟩ (z.store i (sl := .frz d) ⟨v, rfl, r⟩ (fun _ _ e => by cases e))
    rw [List.getElem?_set_ne]
    intro e
    exact hj (by rw [e]; exact List.mem_singleton.mpr rfl)
theorem pdg_nil : PGs X [] (GTs G []) := pgs_nil.imp fun vs σ H Q ⟨B, F, env, S, ds, env', z, r, e, q⟩ => by
  cases ds with
  | nil => cases e; exact ⟨r, q σ Off.refl z⟩
  | cons d ds => cases e
theorem pdg_cons {t : Tg} {ts : List Tg} (h1 : PG X e (GT G t)) (h2 : PGs X es (GTs G ts)) (hs : (assignEach (e :: es) X.env).map (·.2) = assign e X.env :: (assignEach es X.env).map (·.2) := by rfl) : PGs X (e :: es) (GTs G (t :: ts)) :=
  (pgs_cons h1 h2 hs).imp fun vs σ H Q ⟨B, F, env, S, ds, env', z, r, e, q⟩ => by
    cases ds with
    | nil => cases e
    | cons d ds =>
      obtain ⟨v, rs, e1, r1, r2⟩ := r
      unfold bindTs at e
      cases e2 : bindT t d env with
      | none => rw [e2] at e; cases e
      | some env1 =>
        rw [e2] at e
        refine ⟨v, rs, e1, B, F, env, S, d, env1, z, r1, e2, fun σ1 o1 z1 => ?_⟩
        exact ⟨B, F, env1, S, ds, env', z1, r2, e, fun σ2 o2 z2 => q σ2 (o1.trans o2) z2⟩
theorem pdg_tup {k : Nat} {ts : List Tg} {n : Nat} (hc : X.calm = true) (h : PGs X es (GTs G ts)) (hn : ts.length = n := by rfl)
    (hl : (assignEach es X.env).length = n := by rfl) (hst : (assignEach es X.env).findIdx? (·.1) = none := by rfl) (hK : X.K = G.K) : PG X (.Tuple es k pos) (GT G (.t ts)) :=
  (pg_tup hc h hl hst).imp fun v σ H Q ⟨B, F, env, S, d, env', z, r, e, q⟩ => by
    cases d with
    | tup ds =>
      obtain ⟨a, vs, rfl, h1, h2⟩ := r
      have e' : bindTs ts ds env = some env' := e
      refine ⟨a, vs, rfl, ?_, ?_, B, F, env, S, ds, env', z, h2, e', q⟩
      · rw [hK]; exact (h1.mono z.exF).sq
      · rw [← h2.length, ← hn]; exact bindTs_len e'
    | _ => cases e
/-- target = value -/
theorem pds_bind {tg : Expr} {t : Tg} (he : PE X e (ET G W ma)) (hg : PG X tg (GT G t)) (hs : swapsWithSole [tg] e pos.line X.env = pure false := by rfl) (hw : swappedStores [tg] e X.env = pure none := by rfl)
    (h1 : (assignEach [tg] X.env).map (·.2) = [assign tg X.env] := by rfl) : PS X (.Assign [tg] e pos) (ST G W (sBind t ma)) := (ps_asg he hg hs hw h1).imp fun D σ H ⟨B, F, env, S, z, p⟩ => by
  refine ⟨B, F, env, S, z, (Pst.bindS (r := ma env S) p).imp ?_⟩
  rintro v H1 ⟨F1, env1, S1, ev, s1, z1, q1, p1⟩
  cases e : take env1 ev with
  | none => simp only [e] at p1; exact p1.elim
  | some r =>
    obtain ⟨d, env2⟩ := r
    simp only [e] at p1
    obtain ⟨F2, s2, z2, r2⟩ := take_ok z1 q1 e
    cases e3 : bindT t d env2 with
    | none => simp only [e3] at p1; exact p1.elim
    | some env3 =>
      simp only [e3] at p1
      exact ⟨B, F2, env2, S1, d, env3, z2, r2, e3, fun σ' _ z' => p1 F2 σ' H1 s2 z'⟩

/-! #### what is walked -/
/-- J goes through the data ds, which stands frozen -/
structure Wlk (G : Gc) (F : Hp) (J : It) (ds : List D) : Prop where
  goes : ∀ i H, i < ds.length → Same F H → J.go i H
  stops : ∀ H, Same F H → J.stop ds.length H
  yields : ∀ i H x H', i < ds.length → Same F H → J.yld i H x H' → H' = H ∧ ∃ d, ds[i]? = some d ∧ Rep G F d x
/-- J goes through new pairs -/
structure Wlk2 (G : Gc) (F : Hp) (J : It) (ds : List D) : Prop where
  goes : ∀ i H, i < ds.length → Same F H → J.go i H
  stops : ∀ H, Same F H → J.stop ds.length H
  yields : ∀ i H x H', i < ds.length → Same F H → J.yld i H x H' → ∃ T v w d d', x = .ref T ∧ H T = none ∧ H' = upd H T (.tup [v, w]) ∧ ds[i]? = some (.tup [d, d']) ∧ Rep G F d v ∧ Rep G F d' w
def PstI (Wk : Hp → It → List D → Prop) (G : Gc) (B : Bs) (W : WX) (F : Hp) (σ : L2.St) (R : It → Hp → Prop) : RR (List D) → Prop
  | .ok ds env S => ∀ F' J H', Same F F' → Zok G B F' env S σ H' → Wk F' J ds → R J H'
  | .err x env S => ErrE G B W F σ x env S
  | .bad => False
def IT (G : Gc) (W : WX) (m : M (List D)) : TI := fun σ H R => ∃ B F env S, Zok G B F env S σ H ∧ PstI (Wlk G) G B W F σ R (m env S)
def IT2 (G : Gc) (W : WX) (m : M (List D)) : TI := fun σ H R => ∃ B F env S, Zok G B F env S σ H ∧ PstI (Wlk2 G) G B W F σ R (m env S)
theorem PstI.bindS {Wk : Hp → It → List D → Prop} {B : Bs} {F : Hp} {σ : L2.St} {D' : Ends} {r : RR (List D)} {k : List D → SM} {R : It → Hp → Prop} (p : PstS G B W F D' (r.toS k))
    (h : ∀ F1 env1 S1 ds J H1, Same F F1 → Zok G B F1 env1 S1 σ H1 → Wk F1 J ds → PstS G B W F1 D' (k ds env1 S1) → R J H1) : PstI Wk G B W F σ R r := by
  cases r with
  | bad => exact p
  | err x env1 S1 => exact ErrOk.at p
  | ok ds env1 S1 => exact fun F' J H' s z' q => h F' env1 S1 ds J H' s z' q (PstS.mono (r := k ds env1 S1) p s)
/-- the pair of targets over a new pair -/
theorem zok_pair {B : Bs} {F : Hp} {env : List Sl} {S : DS} {σ : L2.St} {H : Hp} {T : Addr} {o : HO} (z : Zok G B F env S σ H) (h : H T = none) (ho : ∀ ps, o ≠ .tbl ps) : Zok G B F env S σ (upd H T o) := z.laidO h ho
def GT2 (G : Gc) (t t' : Tg) : TG := fun v σ H Q => ∃ B F env S d d' env', (∃ T x y, v = .ref T ∧ H T = some (.tup [x, y]) ∧ Rep G F d x ∧ Rep G F d' y) ∧ Zok G B F env S σ H ∧ bindT (.t [t, t']) (.tup [d, d']) env = some env' ∧ ∀ σ', Off (Tg.vars (.t [t, t'])) σ σ' → Zok G B F env' S σ' H → Q σ' H
theorem pdg_pair {k : Nat} {t t' : Tg} (hc : X.calm = true) (h : PGs X [a, b] (GTs G [t, t'])) 
    (hl : (assignEach [a, b] X.env).length = 2 := by rfl) (hst : (assignEach [a, b] X.env).findIdx? (·.1) = none := by rfl) : PG X (.Tuple [a, b] k pos) (GT2 G t t') :=
  (pg_tup hc h hl hst).imp fun v σ H Q ⟨B, F, env, S, d, d', env', ⟨T, x, y, e1, e2, r1, r2⟩, z, e, q⟩ =>
    ⟨T, [x, y], e1, .inl (.inl e2), rfl, B, F, env, S, [d, d'], env', z, ⟨x, [y], rfl, r1, y, [], rfl, r2, rfl⟩, e, q⟩

/-! #### for -/
theorem forL_turn {B : Bs} {D' : Ends} {F0 : Hp} {t : Tg} {bd : SM} {ds : List D} {n : Nat} {d : D} {F : Hp} {env : List Sl} {S : DS} (hd : ds[n]? = some d) (p : PstS G B W F D' (forL t bd (ds.drop n) env S)) :
    ∃ env1, bindT t d env = some env1 ∧ PstS G B W F { D' with nx := fun σ H => ∃ F2 env2 S2, Same F F2 ∧ Zok G B F2 env2 S2 σ H ∧ PstS G B W F2 D' (forL t bd (ds.drop (n + 1)) env2 S2), ct := fun σ H => ∃ F2 env2 S2, Same F F2 ∧ Zok G B F2 env2 S2 σ H ∧ PstS G B W F2 D' (forL t bd (ds.drop (n + 1)) env2 S2), bk := D'.nx } (bd env1 S) := by
  have hn : n < ds.length := (List.getElem?_eq_some_iff.mp hd).1
  have e : ds.drop n = d :: ds.drop (n + 1) := by
    rw [List.drop_eq_getElem_cons hn]
    rw [(List.getElem?_eq_some_iff.mp hd).2]
  rw [e] at p
  unfold forL at p
  cases e1 : bindT t d env with
  | none => rw [e1] at p; exact p.elim
  | some env1 =>
    rw [e1] at p
    refine ⟨env1, rfl, ?_⟩
    simp only at p
    cases e2 : bd env1 S with
    | nx e2' S2 => rw [e2] at p; exact fun F' σ' H' s z => ⟨F', e2', S2, s, z, PstS.mono (r := forL t bd (ds.drop (n + 1)) e2' S2) p s⟩
    | ct e2' S2 => rw [e2] at p; exact fun F' σ' H' s z => ⟨F', e2', S2, s, z, PstS.mono (r := forL t bd (ds.drop (n + 1)) e2' S2) p s⟩
    | bk e2' S2 => rw [e2] at p; exact p
    | rt ev e2' S2 => rw [e2] at p; exact p
    | err x e2' S2 => rw [e2] at p; exact p
    | bad => rw [e2] at p; exact p
theorem PstS.ends {B : Bs} {F : Hp} {D1 D2 : Ends} {r : SR} (p : PstS G B W F D1 r) (h1 : ∀ σ H, D1.nx σ H → D2.nx σ H) (h2 : ∀ v H, D1.rt v H → D2.rt v H) (h3 : ∀ σ H, D1.bk σ H → D2.bk σ H) (h4 : ∀ σ H, D1.ct σ H → D2.ct σ H) : PstS G B W F D2 r := by
  cases r with
  | nx e S => exact fun F' σ' H' s z => h1 _ _ (p F' σ' H' s z)
  | bk e S => exact fun F' σ' H' s z => h3 _ _ (p F' σ' H' s z)
  | ct e S => exact fun F' σ' H' s z => h4 _ _ (p F' σ' H' s z)
  | rt ev e S => exact fun F' σ' v H' s z q => h2 _ _ (p F' σ' v H' s z q)
  | err x e S => exact p
  | bad => exact p
variable {iter tg : Expr} {body : List Stmt} {t t' : Tg} {mi : M (List D)}
theorem pds_for (hp : PassesOwn (model X.prog X.w) X.A X.env X.xe) (hc : X.calm = true) (hi : PI X tg iter (IT G W mi)) (hg : PG X tg (GT G t)) (hb : PSs X body (ST G W m))
    (hs : ∀ x, foldedSetIterable iter X.env x = pure x := by intro _; rfl) : PS X (.For tg iter body [] pos) (ST G W (sFor t mi m)) := (ps_for hp hc hi hg hb hs).imp fun D σ H ⟨B, F, env, S, z, p⟩ => by
  refine ⟨B, F, env, S, z, PstI.bindS p ?_⟩
  intro F1 env1 S1 ds J H1 s1 z1 wk p1
  refine ⟨fun i n σ H => n = ds.length - i ∧ i ≤ ds.length ∧ ∃ F2 env2 S2, Same F1 F2 ∧ Zok G B F2 env2 S2 σ H ∧ PstS G B W F2 D (forL t m (ds.drop i) env2 S2), ⟨_, rfl, Nat.zero_le _, F1, env1, S1, Same.refl F1, z1, p1⟩, ?_⟩
  rintro i n σ2 H2 ⟨rfl, hi, F2, env2, S2, s2, z2, p2⟩
  have w2 : Same F1 H2 := s2.trans z2.exF
  by_cases hlt : i < ds.length
  · refine .inr ⟨wk.goes i H2 hlt w2, fun σ' H' => ∃ F3 env3 S3, Same F2 F3 ∧ Zok G B F3 env3 S3 σ' H' ∧ PstS G B W F3 D (forL t m (ds.drop (i + 1)) env3 S3), fun σ' H' ⟨F3, env3, S3, s3, z3, p3⟩ => ⟨ds.length - (i + 1), by omega, rfl, hlt, F3, env3, S3, s2.trans s3, z3, p3⟩, fun x H' y => ?_⟩
    obtain ⟨rfl, d, hd, r⟩ := wk.yields i H2 x H' hlt w2 y
    obtain ⟨env3, b3, p3⟩ := forL_turn (F0 := F) hd p2
    exact ⟨B, F2, env2, S2, d, env3, z2, r.mono s2, b3, fun σ' _ z' => ⟨B, F2, env3, S2, z', PstS.ends p3 (fun _ _ h => h) (fun _ _ h => h) (fun _ _ h => h) (fun _ _ h => h)⟩⟩
  · have e : i = ds.length := by omega
    subst e
    refine .inl ⟨wk.stops H2 w2, ?_⟩
    rw [List.drop_length] at p2
    exact p2 F2 σ2 H2 (Same.refl F2) z2
theorem pds_for2 (hp : PassesOwn (model X.prog X.w) X.A X.env X.xe) (hc : X.calm = true) (hi : PI X tg iter (IT2 G W mi)) (hg : PG X tg (GT2 G t t')) (hb : PSs X body (ST G W m))
    (hs : ∀ x, foldedSetIterable iter X.env x = pure x := by intro _; rfl) : PS X (.For tg iter body [] pos) (ST G W (sFor (.t [t, t']) mi m)) := (ps_for hp hc hi hg hb hs).imp fun D σ H ⟨B, F, env, S, z, p⟩ => by
  refine ⟨B, F, env, S, z, PstI.bindS p ?_⟩
  intro F1 env1 S1 ds J H1 s1 z1 wk p1
  refine ⟨fun i n σ H => n = ds.length - i ∧ i ≤ ds.length ∧ ∃ F2 env2 S2, Same F1 F2 ∧ Zok G B F2 env2 S2 σ H ∧ PstS G B W F2 D (forL (.t [t, t']) m (ds.drop i) env2 S2), ⟨_, rfl, Nat.zero_le _, F1, env1, S1, Same.refl F1, z1, p1⟩, ?_⟩
  rintro i n σ2 H2 ⟨rfl, hi, F2, env2, S2, s2, z2, p2⟩
  have w2 : Same F1 H2 := s2.trans z2.exF
  by_cases hlt : i < ds.length
  · refine .inr ⟨wk.goes i H2 hlt w2, fun σ' H' => ∃ F3 env3 S3, Same F2 F3 ∧ Zok G B F3 env3 S3 σ' H' ∧ PstS G B W F3 D (forL (.t [t, t']) m (ds.drop (i + 1)) env3 S3), fun σ' H' ⟨F3, env3, S3, s3, z3, p3⟩ => ⟨ds.length - (i + 1), by omega, rfl, hlt, F3, env3, S3, s2.trans s3, z3, p3⟩, fun x H' y => ?_⟩
    obtain ⟨T, v, w, d, d', rfl, hT, rfl, hd, r, r'⟩ := wk.yields i H2 x H' hlt w2 y
    obtain ⟨env3, b3, p3⟩ := forL_turn (F0 := F) hd p2
    exact ⟨B, F2, env2, S2, d, d', env3, ⟨T, v, w, rfl, upd_same, r.mono s2, r'.mono s2⟩, z2.laidO hT, b3, fun σ' _ z' => ⟨B, F2, env3, S2, z', PstS.ends p3 (fun _ _ h => h) (fun _ _ h => h) (fun _ _ h => h) (fun _ _ h => h)⟩⟩
  · have e : i = ds.length := by omega
    subst e
    refine .inl ⟨wk.stops H2 w2, ?_⟩
    rw [List.drop_length] at p2
    exact p2 F2 σ2 H2 (Same.refl F2) z2
theorem pds_while (L : Nat) (hp : PassesOwn (model X.prog X.w) X.A X.env X.xe) (hc : PT X c (BT G W mc)) (hb : PSs X body (ST G W m)) : PS X (.While c body [] pos) (ST G W (whL mc m L)) := (ps_while hp hc hb).imp fun D σ H ⟨B, F, env, S, z, p⟩ => by
  refine ⟨fun n σ H => ∃ F2 env2 S2, Same F F2 ∧ Zok G B F2 env2 S2 σ H ∧ PstS G B W F2 D (whL mc m n env2 S2), ⟨L, F, env, S, Same.refl F, z, p⟩, ?_⟩
  rintro n σ2 H2 ⟨F2, env2, S2, s2, z2, p2⟩
  cases n with
  | zero => exact p2.elim
  | succ n =>
    refine ⟨B, F2, env2, S2, z2, (PstB.bindS (r := mc env2 S2) p2).imp ?_⟩
    rintro b H3 ⟨F3, env3, S3, s3, z3, p3⟩
    cases b with
    | false => exact p3 F3 σ2 H3 (Same.refl F3) z3
    | true =>
      refine ⟨fun σ' H' => ∃ F4 env4 S4, Same F3 F4 ∧ Zok G B F4 env4 S4 σ' H' ∧ PstS G B W F4 D (whL mc m n env4 S4), fun σ' H' ⟨F4, env4, S4, s4, z4, p4⟩ => ⟨n, Nat.lt_succ_self n, F4, env4, S4, s2.trans (s3.trans s4), z4, p4⟩, ?_⟩
      refine ⟨B, F3, env3, S3, z3, ?_⟩
      simp only [if_true] at p3
      cases e2 : m env3 S3 with
      | nx e2' S2 => rw [e2] at p3; exact fun F' σ' H' s z => ⟨F', e2', S2, s, z, PstS.mono (r := whL mc m n e2' S2) p3 s⟩
      | ct e2' S2 => rw [e2] at p3; exact fun F' σ' H' s z => ⟨F', e2', S2, s, z, PstS.mono (r := whL mc m n e2' S2) p3 s⟩
      | bk e2' S2 => rw [e2] at p3; exact p3
      | rt ev e2' S2 => rw [e2] at p3; exact p3
      | err x e2' S2 => rw [e2] at p3; exact p3
      | bad => rw [e2] at p3; exact p3
end
end PD

set_option Elab.async false
set_option linter.all false
set_option maxRecDepth 100000
set_option maxHeartbeats 4000000
/-! PD5: list comprehensions over plain data. -/
namespace PD
open PySem PySem.Spec PyProof.Rows L2

def wipeE (e : List Sl) : List Nat → List Sl
  | [] => e
  | v :: vs => (wipeE e vs).set v .un
def keepS : Option Sl → Sl
  | some (.frz d) => .frz d
  | _ => .un
def unwipe (e : List Sl) : List Nat → List Sl → List Sl
  | [], e' => e'
  | v :: vs, e' => (unwipe e vs e').set v (keepS e[v]?)
def lcL (vs : List Nat) (t : Tg) (mc : M Bool) (me : EM) : List D → List D → M (List D)
  | [], acc => fun e S => .ok acc e S
  | d :: ds, acc => fun e S => match bindT t d e with
    | some e1 => match mc e1 S with
      | .ok b e2 S2 => if b = true then match me e2 S2 with
          | .ok ev e3 S3 => match take e3 ev with
            | some (x, e4) => if acc.length < 100000 then lcL vs t mc me ds (acc ++ [x]) (wipeE e4 vs) S3 else .bad
            | none => .bad
          | _ => .bad
        else lcL vs t mc me ds acc (wipeE e2 vs) S2
      | _ => .bad
    | none => .bad
def eLc (vs : List Nat) (t : Tg) (it : M (List D)) (mc : M Bool) (me : EM) : EM := it.then fun ds => fun e S => match lcL vs t mc me ds [] (wipeE e vs) S with
  | .ok acc e' S' => .ok (.fresh (.lst acc)) (unwipe e vs e') S'
  | _ => .bad
def bYes : M Bool := fun e S => .ok true e S

section
theorem wipeE_length (e : List Sl) : ∀ vs, (wipeE e vs).length = e.length
  | [] => rfl
  | v :: vs => by unfold wipeE; rw [List.length_set, wipeE_length e vs]
theorem wipeE_get (e : List Sl) (i : Nat) : ∀ vs : List Nat, (wipeE e vs)[i]? = if i ∈ vs then (e[i]?).map (fun _ => Sl.un) else e[i]?
  | [] => by simp [wipeE]
  | v :: vs => by
    unfold wipeE
    by_cases h : v = i
    · subst h
      rw [if_pos List.mem_cons_self]
      by_cases hv : v < e.length
      · rw [List.getElem?_set_self (by rw [wipeE_length]; exact hv)]
        rw [List.getElem?_eq_getElem hv]; rfl
      · rw [List.getElem?_eq_none (by rw [List.length_set, wipeE_length]; omega), List.getElem?_eq_none (by omega)]; rfl
    · rw [List.getElem?_set_ne h, wipeE_get e i vs]
      by_cases hi : i ∈ vs
      · rw [if_pos hi, if_pos (List.mem_cons_of_mem _ hi)]
      · rw [if_neg hi, if_neg (fun m => (List.mem_cons.mp m).elim (fun e => h e.symm) hi)]
theorem wipe_get (σ : L2.St) (i : Nat) : ∀ vs : List Nat, (wipe σ vs)[i]? = if i ∈ vs then (σ[i]?).map (fun _ => none) else σ[i]?
  | [] => by simp [wipe]
  | v :: vs => by
    unfold wipe
    by_cases h : v = i
    · subst h
      rw [if_pos List.mem_cons_self]
      by_cases hv : v < σ.length
      · rw [List.getElem?_set_self (by rw [wipe_length]; exact hv)]
        rw [List.getElem?_eq_getElem hv]; rfl
      · rw [List.getElem?_eq_none (by rw [List.length_set, wipe_length]; omega), List.getElem?_eq_none (by omega)]; rfl
    · rw [List.getElem?_set_ne h, wipe_get σ i vs]
      by_cases hi : i ∈ vs
      · rw [if_pos hi, if_pos (List.mem_cons_of_mem _ hi)]
      · rw [if_neg hi, if_neg (fun m => (List.mem_cons.mp m).elim (fun e => h e.symm) hi)]
theorem unwipe_length (e e' : List Sl) : ∀ vs, (unwipe e vs e').length = e'.length
  | [] => rfl
  | v :: vs => by unfold unwipe; rw [List.length_set, unwipe_length e e' vs]
theorem unwipe_get (e e' : List Sl) (i : Nat) : ∀ vs : List Nat, (unwipe e vs e')[i]? = if i ∈ vs then (e'[i]?).map (fun _ => keepS e[i]?) else e'[i]?
  | [] => by simp [unwipe]
  | v :: vs => by
    unfold unwipe
    by_cases h : v = i
    · subst h
      rw [if_pos List.mem_cons_self]
      by_cases hv : v < e'.length
      · rw [List.getElem?_set_self (by rw [unwipe_length]; exact hv)]
        rw [List.getElem?_eq_getElem hv]; rfl
      · rw [List.getElem?_eq_none (by rw [List.length_set, unwipe_length]; omega), List.getElem?_eq_none (l := e') (by omega)]; rfl
    · rw [List.getElem?_set_ne h, unwipe_get e e' i vs]
      by_cases hi : i ∈ vs
      · rw [if_pos hi, if_pos (List.mem_cons_of_mem _ hi)]
      · rw [if_neg hi, if_neg (fun m => (List.mem_cons.mp m).elim (fun e => h e.symm) hi)]
theorem Off.wipe {us vs : List Nat} {σ σ' : L2.St} (h : Off us (L2.wipe σ vs) σ') (hv : ∀ i ∈ us, i ∈ vs) : L2.wipe σ' vs = L2.wipe σ vs := by
  apply List.ext_getElem?
  intro i
  have hl : σ'.length = σ.length := by rw [h.1, wipe_length]
  rw [wipe_get, wipe_get]
  by_cases hi : i ∈ vs
  · rw [if_pos hi, if_pos hi]
    by_cases hs : i < σ.length
    · rw [List.getElem?_eq_getElem hs, List.getElem?_eq_getElem (by omega)]; rfl
    · rw [List.getElem?_eq_none (by omega), List.getElem?_eq_none (by omega)]
  · rw [if_neg hi, if_neg hi, h.2 i (fun m => hi (hv i m)), wipe_get, if_neg hi]

def Bs.add (B : Bs) (p : Addr) (o : HO) : Bs := ⟨upd B.R p o, B.F0⟩
variable {G : Gc} {B : Bs} {W : WX} {F F' : Hp} {env env' : List Sl} {S S' : DS} {σ : L2.St} {H H' : Hp}
theorem Zok.wipe (z : Zok G B F env S σ H) (vs : List Nat) : Zok G B F (wipeE env vs) S (L2.wipe σ vs) H where
  tb := z.tb
  exF := z.exF
  exS := z.exS
  exR := z.exR
  ex0 := z.ex0
  new := z.new
  dis := z.dis
  len := by rw [wipeE_length, wipe_length]; exact z.len
  slot := fun i sl h => by
    rw [wipeE_get] at h
    rw [wipe_get]
    by_cases hi : i ∈ vs
    · rw [if_pos hi] at h
      cases q : env[i]? with
      | none => rw [q] at h; cases h
      | some u => rw [q] at h; cases h; trivial
    · rw [if_neg hi] at h
      rw [if_neg hi]
      exact z.slot i sl h
  sep := fun i j d d' a h1 h2 e1 e2 => by
    rw [wipeE_get] at h1 h2
    rw [wipe_get] at e1 e2
    have w : ∀ {i : Nat} {d : D}, (if i ∈ vs then (env[i]?).map (fun _ => Sl.un) else env[i]?) = some (Sl.own d) → i ∉ vs := fun {i d} h hi => by
      rw [if_pos hi] at h
      cases q : env[i]? with
      | none => rw [q] at h; cases h
      | some u => rw [q] at h; cases h
    have hi := w h1
    have hj := w h2
    rw [if_neg hi] at h1 e1
    rw [if_neg hj] at h2 e2
    exact z.sep i j d d' a h1 h2 e1 e2
/-- a thing of one's own is put aside -/
theorem Zok.aside (z : Zok G B F env S σ H) {p : Addr} {o : HO} (hp : H p = none) (ho : ∀ ps, o ≠ .tbl ps := by intro _ e; cases e) : Zok G (B.add p o) F env S σ (upd H p o) := by
  have sH : Same H (upd H p o) := fun b u e => by rw [upd_ne (ne_of_none e hp)]; exact e
  have hF := free_of z.exF hp
  have hS := free_of z.exS hp
  refine ⟨z.exF.trans sH, z.exS.trans sH, fun a u e => ?_, z.ex0, fun a h1 h2 => ?_, fun a h => ?_, (z.tb.grow hp ho).of z.tb.noF (fun a ps e => ?_), z.len, fun i sl h => ?_, z.sep⟩
  · show upd H p o a = some u
    have e : upd B.R p o a = some u := e
    by_cases ha : a = p
    · subst ha; rw [upd_same] at e ⊢; exact e
    · rw [upd_ne ha] at e ⊢; exact z.exR a u e
  · show upd B.R p o a = none
    have ha : a ≠ p := fun e => by subst e; exact h1 hF
    rw [upd_ne ha]; exact z.new a h1 h2
  · have ha : a ≠ p := fun e => by subst e; exact h hS
    refine ⟨(z.dis a h).1, ?_⟩
    show upd B.R p o a = none
    rw [upd_ne ha]; exact (z.dis a h).2
  · have e : upd B.R p o a = some (.tbl ps) := e
    by_cases ha : a = p
    · subst ha; rw [upd_same] at e; cases e; exact ho ps rfl
    · rw [upd_ne ha] at e; exact z.tb.noR a ps e
  · have q := z.slot i sl h
    cases sl with
    | un => trivial
    | frz d => exact q
    | own d =>
      obtain ⟨a, q1, q2, q3, q4, q5⟩ := q
      obtain ⟨u, hu, _⟩ := q5.objs
      have ha : a ≠ p := fun e => by subst e; rw [hp] at hu; cases hu
      refine ⟨a, q1, q2, q3, ?_, q5.step (Same.refl F) fun u e => sH a u e⟩
      show upd B.R p o a = none
      rw [upd_ne ha]; exact q4
theorem Zok.asideAt (z : Zok G (B.add p o) F env S σ H) : H p = some o := z.exR p o (show upd B.R p o p = some o from upd_same)
theorem Zok.asideF (z : Zok G (B.add p o) F env S σ H) (h : B.F0 p = none) : F p = none := by
  cases e : F p with
  | none => rfl
  | some u =>
    have q := z.new p (some_ne e) h
    have q : upd B.R p o p = none := q
    rw [upd_same] at q; cases q
theorem Zok.asideS (z : Zok G (B.add p o) F env S σ H) : G.sh S p = none := by
  cases e : G.sh S p with
  | none => rfl
  | some u =>
    have q := (z.dis p (some_ne e)).2
    have q : upd B.R p o p = none := q
    rw [upd_same] at q; cases q
theorem Zok.asideN (z : Zok G (B.add p o) F env S σ H) : NoOwn env σ p := fun i d h1 h2 => by
  obtain ⟨a, q1, _, _, q4, _⟩ := z.slot i _ h1
  rw [h2] at q1; cases q1
  have q4 : upd B.R p o p = none := q4
  rw [upd_same] at q4; cases q4
/-- .. it changes -/
theorem Zok.asideMut (z : Zok G (B.add p o) F env S σ H) (h0 : B.F0 p = none) (o' : HO) (hn : ∀ φ, o ≠ .ext φ := by intro _ e; cases e) (ho : ∀ ps, o' ≠ .tbl ps := by intro _ e; cases e) : Zok G (B.add p o') F env S σ (upd H p o') := by
  have hF := z.asideF h0
  have hS := z.asideS
  have kp : ∀ c u, c ≠ p → H c = some u → upd H p o' c = some u := fun c u hc e => by rw [upd_ne hc]; exact e
  refine ⟨fun c u e => kp c u (fun w => by subst w; rw [hF] at e; cases e) (z.exF c u e), fun c u e => kp c u (fun w => by subst w; rw [hS] at e; cases e) (z.exS c u e), fun c u e => ?_, z.ex0, fun a h1 h2 => ?_, fun a h => ?_, (z.tb.upd (fun ps e => z.tb.noR p ps ?_) (fun φ e => ?_) ho).of z.tb.noF (fun a ps e => ?_), z.len, fun i sl h => ?_, z.sep⟩
  · have e : upd B.R p o' c = some u := e
    show upd H p o' c = some u
    by_cases hc : c = p
    · subst hc; rw [upd_same] at e ⊢; exact e
    · rw [upd_ne hc] at e ⊢
      exact z.exR c u (by show upd B.R p o c = some u; rw [upd_ne hc]; exact e)
  · have ha : a ≠ p := fun e => by subst e; exact h1 hF
    show upd B.R p o' a = none
    have q : upd B.R p o a = none := z.new a h1 h2
    rw [upd_ne ha] at q ⊢; exact q
  · have ha : a ≠ p := fun e => by subst e; exact h hS
    obtain ⟨q1, q2⟩ := z.dis a h
    refine ⟨q1, ?_⟩
    show upd B.R p o' a = none
    have q2 : upd B.R p o a = none := q2
    rw [upd_ne ha] at q2 ⊢; exact q2
  · rw [z.asideAt] at e; cases e; exact upd_same
  · rw [z.asideAt] at e; cases e; exact hn φ rfl
  · have e : upd B.R p o' a = some (.tbl ps) := e
    by_cases ha : a = p
    · subst ha; rw [upd_same] at e; cases e; exact ho ps rfl
    · rw [upd_ne ha] at e
      exact z.tb.noR a ps (show upd B.R p o a = some (.tbl ps) by rw [upd_ne ha]; exact e)
  · have q := z.slot i sl h
    cases sl with
    | un => trivial
    | frz d => exact q
    | own d =>
      obtain ⟨a, q1, q2, q3, q4, q5⟩ := q
      have ha : a ≠ p := fun e => by
        subst e
        have q4 : upd B.R a o a = none := q4
        rw [upd_same] at q4; cases q4
      refine ⟨a, q1, q2, q3, ?_, q5.step (Same.refl F) fun u e => kp a u ha e⟩
      show upd B.R p o' a = none
      have q4 : upd B.R p o a = none := q4
      rw [upd_ne ha] at q4 ⊢; exact q4
/-- .. and taken up again -/
theorem Zok.asideOff (z : Zok G (B.add p o) F env S σ H) (h0 : B.F0 p = none) (hR : B.R p = none) : Zok G B F env S σ H := by
  have hF := z.asideF h0
  have hS := z.asideS
  have ne : ∀ {a}, upd B.R p o a = none → a ≠ p ∧ B.R a = none := fun {a} q => by
    have ha : a ≠ p := fun e => by subst e; rw [upd_same] at q; cases q
    rw [upd_ne ha] at q
    exact ⟨ha, q⟩
  refine ⟨z.exF, z.exS, fun c u e => ?_, z.ex0, fun a h1 h2 => (ne (z.new a h1 h2)).2, fun a h => ⟨(z.dis a h).1, (ne (z.dis a h).2).2⟩, z.tb.of z.tb.noF (fun a ps e => z.tb.noR a ps (show upd B.R p o a = some (.tbl ps) by
    have ha : a ≠ p := fun w => by subst w; rw [hR] at e; cases e
    rw [upd_ne ha]; exact e)), z.len, fun i sl h => ?_, z.sep⟩
  · have hc : c ≠ p := fun w => by subst w; rw [hR] at e; cases e
    exact z.exR c u (by show upd B.R p o c = some u; rw [upd_ne hc]; exact e)
  · have q := z.slot i sl h
    cases sl with
    | un => trivial
    | frz d => exact q
    | own d =>
      obtain ⟨a, q1, q2, q3, q4, q5⟩ := q
      exact ⟨a, q1, q2, q3, (ne q4).2, q5⟩
/-- the names of a comprehension are as they were -/
theorem Zok.unwipe {vs : List Nat} {B0 : Bs} {F0 : Hp} {S0 : DS} {H0 : Hp} (z0 : Zok G B0 F0 env S0 σ H0) (e : Same F0 F) (z : Zok G B F env' S (L2.wipe σ vs) H) : Zok G B F (PD.unwipe env vs env') S σ H where
  tb := z.tb
  exF := z.exF
  exS := z.exS
  exR := z.exR
  ex0 := z.ex0
  new := z.new
  dis := z.dis
  len := by rw [unwipe_length, z.len, wipe_length]
  slot := fun i sl h => by
    rw [unwipe_get] at h
    by_cases hi : i ∈ vs
    · rw [if_pos hi] at h
      cases q : env'[i]? with
      | none => rw [q] at h; cases h
      | some u =>
        rw [q] at h
        have h : some (keepS env[i]?) = some sl := h
        cases q2 : env[i]? with
        | none => rw [q2] at h; cases h; trivial
        | some w =>
          rw [q2] at h
          have k := z0.slot i w q2
          cases w with
          | un => cases h; trivial
          | own d => cases h; trivial
          | frz d =>
            cases h
            obtain ⟨v, k1, k2⟩ := k
            exact ⟨v, k1, k2.mono e⟩
    · rw [if_neg hi] at h
      have k := z.slot i sl h
      rw [wipe_get, if_neg hi] at k
      exact k
  sep := fun i j d d' a h1 h2 e1 e2 => by
    rw [unwipe_get] at h1 h2
    have w : ∀ {i : Nat} {d : D}, (if i ∈ vs then (env'[i]?).map (fun _ => keepS env[i]?) else env'[i]?) = some (Sl.own d) → i ∉ vs := fun {i d} h hi => by
      rw [if_pos hi] at h
      cases q : env'[i]? with
      | none => rw [q] at h; cases h
      | some u =>
        rw [q] at h
        have h : some (keepS env[i]?) = some (Sl.own d) := h
        unfold keepS at h
        split at h <;> cases h
    have hi := w h1
    have hj := w h2
    rw [if_neg hi] at h1
    rw [if_neg hj] at h2
    exact z.sep i j d d' a h1 h2 (by rw [wipe_get, if_neg hi]; exact e1) (by rw [wipe_get, if_neg hj]; exact e2)

theorem _root_.L2.PTs.imp {X : Cx} {es : List Expr} {t t' : TT} (h : PTs X es t) (k : ∀ σ H Q, t' σ H Q → t σ H Q) : PTs X es t' := ⟨fun pins s σ H Q I hq => h.run pins s σ H Q I (k σ H Q hq)⟩
theorem pdt_nil {X : Cx} : PTs X [] (BT G W bYes) := pts_nil.imp fun σ H Q ⟨B, F, env, S, z, p⟩ => p F H (Same.refl F) z
theorem pdt_one {X : Cx} {c : Expr} {mc : M Bool} (h : PT X c (BT G W mc)) : PTs X [c] (BT G W mc) := pts_one h
abbrev W0 : WX := fun _ _ _ _ => False
/-- what a turn of the block needs: the state at the list D with acc -/
def LcAt (G : Gc) (B : Bs) (F1 : Hp) (vs : List Nat) (σ : L2.St) (p : Addr) (R : List D → List Sl → DS → Prop) (H : Hp) : Prop :=
  ∃ F2 e2 S2 acc ws, Same F1 F2 ∧ Zok G (B.add p (.lst ws)) F2 e2 S2 (L2.wipe σ vs) H ∧ Reps G F2 acc ws ∧ R acc e2 S2
theorem LcAt.start {F1 : Hp} {vs : List Nat} {p : Addr} {R : List D → List Sl → DS → Prop} (z : Zok G B F1 env S σ H) (hp : H p = none) (r : R [] (wipeE env vs) S) : LcAt G B F1 vs σ p R (upd H p (.lst [])) :=
  ⟨F1, _, S, [], [], Same.refl F1, (z.wipe vs).aside hp, rfl, r⟩
/-- the element, behind the tests -/
theorem lc_elt {F1 : Hp} {vs : List Nat} {p : Addr} {me : EM} {R : List D → List Sl → DS → Prop} {σ2 : L2.St} {H3 : Hp} {e2 : List Sl} {S2 : DS} {F2 : Hp} {acc : List D} {ws : List V} (s2 : Same F1 F2) (h0 : B.F0 p = none)
    (z : Zok G (B.add p (.lst ws)) F2 e2 S2 σ2 H3) (rw' : Reps G F2 acc ws) (hσ : L2.wipe σ2 vs = L2.wipe σ vs)
    (k : ∃ ev e3 S3 x e4, me e2 S2 = .ok ev e3 S3 ∧ take e3 ev = some (x, e4) ∧ acc.length < 100000 ∧ R (acc ++ [x]) (wipeE e4 vs) S3) :
    ET G W0 me σ2 H3 fun y H4 => ∃ xs, H4 p = some (.lst xs) ∧ xs.length < sizeLine ∧ LcAt G B F1 vs σ p R (upd H4 p (.lst (xs ++ [y]))) := by
  obtain ⟨ev, e3, S3, x, e4, k1, k2, k3, k4⟩ := k
  refine ⟨_, F2, e2, S2, z, ?_⟩
  rw [k1]
  intro F3 y H4 s3 z3 q3
  have hl := rw'.length
  refine ⟨ws, z3.asideAt, by rw [← hl]; have := sizeLine_eq; omega, ?_⟩
  obtain ⟨F4, s4, z4, r4⟩ := take_ok z3 q3 k2
  refine ⟨F4, _, S3, acc ++ [x], ws ++ [y], s2.trans (s3.trans s4), ?_, (rw'.mono (s3.trans s4)).append (.one r4), k4⟩
  have z5 := (z4.wipe vs).asideMut h0 (.lst (ws ++ [y]))
  rw [hσ] at z5
  exact z5
/-- one clause's turn: what lcL asks -/
theorem lcL_cons {vs : List Nat} {t : Tg} {mc : M Bool} {me : EM} {d : D} {ds acc : List D} {e : List Sl} {S : DS} {r : List D × List Sl × DS} (h : lcL vs t mc me (d :: ds) acc e S = .ok r.1 r.2.1 r.2.2) :
    ∃ e1 b e2 S2, bindT t d e = some e1 ∧ mc e1 S = .ok b e2 S2 ∧ ((b = true ∧ ∃ ev e3 S3 x e4, me e2 S2 = .ok ev e3 S3 ∧ take e3 ev = some (x, e4) ∧ acc.length < 100000 ∧ lcL vs t mc me ds (acc ++ [x]) (wipeE e4 vs) S3 = .ok r.1 r.2.1 r.2.2) ∨
      (b = false ∧ lcL vs t mc me ds acc (wipeE e2 vs) S2 = .ok r.1 r.2.1 r.2.2)) := by
  unfold lcL at h
  cases e1 : bindT t d e with
  | none => rw [e1] at h; cases h
  | some e1' =>
    rw [e1] at h
    simp only at h
    cases e2 : mc e1' S with
    | bad => rw [e2] at h; cases h
    | err x a b => rw [e2] at h; cases h
    | ok b e2' S2 =>
      rw [e2] at h
      simp only at h
      refine ⟨e1', b, e2', S2, rfl, e2, ?_⟩
      cases b with
      | false => exact .inr ⟨rfl, by simpa using h⟩
      | true =>
        simp only [if_true] at h
        refine .inl ⟨rfl, ?_⟩
        cases e3 : me e2' S2 with
        | bad => rw [e3] at h; cases h
        | err x a b => rw [e3] at h; cases h
        | ok ev e3' S3 =>
          rw [e3] at h
          simp only at h
          cases e4 : take e3' ev with
          | none => rw [e4] at h; cases h
          | some q =>
            obtain ⟨x, e4'⟩ := q
            rw [e4] at h
            simp only at h
            split at h
            · exact ⟨ev, e3', S3, x, e4', rfl, e4, by assumption, h⟩
            · cases h
theorem drop_get {α : Type} {ds : List α} {i : Nat} {d : α} (hd : ds[i]? = some d) : ds.drop i = d :: ds.drop (i + 1) := by
  have hn : i < ds.length := (List.getElem?_eq_some_iff.mp hd).1
  rw [List.drop_eq_getElem_cons hn, (List.getElem?_eq_some_iff.mp hd).2]
/-- behind the store of a turn -/
theorem lc_turn {F1 : Hp} {vs : List Nat} {t : Tg} {p : Addr} {mc : M Bool} {me : EM} {ds : List D} {r : List D × List Sl × DS} {i : Nat} {d : D} {σ2 : L2.St} {H2 : Hp} {e2 e1 : List Sl} {S2 : DS} {F2 : Hp} {acc : List D} {ws : List V}
    (hd : ds[i]? = some d) (s2 : Same F1 F2) (h0 : B.F0 p = none) (h : lcL vs t mc me (ds.drop i) acc e2 S2 = .ok r.1 r.2.1 r.2.2) (hb : bindT t d e2 = some e1)
    (z : Zok G (B.add p (.lst ws)) F2 e1 S2 σ2 H2) (rw' : Reps G F2 acc ws) (hσ : L2.wipe σ2 vs = L2.wipe σ vs) :
    BT G W0 mc σ2 H2 fun b H3 => if b = true then ET G W0 me σ2 H3 fun y H4 => ∃ xs, H4 p = some (.lst xs) ∧ xs.length < sizeLine ∧ LcAt G B F1 vs σ p (fun acc e S => lcL vs t mc me (ds.drop (i + 1)) acc e S = .ok r.1 r.2.1 r.2.2) (upd H4 p (.lst (xs ++ [y])))
      else LcAt G B F1 vs σ p (fun acc e S => lcL vs t mc me (ds.drop (i + 1)) acc e S = .ok r.1 r.2.1 r.2.2) H3 := by
  rw [drop_get hd] at h
  obtain ⟨e1', b, e3, S3, k1, k2, k3⟩ := lcL_cons h
  rw [hb] at k1; cases k1
  refine ⟨_, F2, e1, S2, z, ?_⟩
  rw [k2]
  intro F3 H3 s3 z3
  rcases k3 with ⟨rfl, k3⟩ | ⟨rfl, k3⟩
  · exact lc_elt (s2.trans s3) h0 z3 (rw'.mono s3) hσ k3
  · simp only [Bool.false_eq_true, if_false]
    refine ⟨F3, _, S3, acc, ws, s2.trans s3, ?_, rw'.mono s3, k3⟩
    have z5 := z3.wipe vs
    rw [hσ] at z5
    exact z5
theorem PstI.bindE {Wk : Hp → It → List D → Prop} {Q : VK} {r : RR (List D)} {k : List D → EM} {R : It → Hp → Prop} (p : Pst G B W F σ Q (r.bind k))
    (h : ∀ F1 env1 S1 ds J H1, Same F F1 → Zok G B F1 env1 S1 σ H1 → Wk F1 J ds → Pst G B W F1 σ Q (k ds env1 S1) → R J H1) : PstI Wk G B W F σ R r := by
  cases r with
  | bad => exact p
  | err x env1 S1 => exact p
  | ok ds env1 S1 => exact fun F' J H' s z' q => h F' env1 S1 ds J H' s z' q (Pst.mono (r := k ds env1 S1) p s)
/-- the end of the block -/
theorem lc_end {F1 : Hp} {vs : List Nat} {p : Addr} {Q : VK} {H1 : Hp} {accF : List D} {eF : List Sl} {SF : DS} {R : List D → List Sl → DS → Prop} (z1 : Zok G B F1 env S σ H1) (hp : H1 p = none) (hR : ∀ acc e S, R acc e S → acc = accF ∧ e = eF ∧ S = SF)
    (q : PostV G B F1 σ Q (.fresh (.lst accF)) (unwipe env vs eF) SF) (h : LcAt G B F1 vs σ p R H) : Q (.ref p) H := by
  obtain ⟨F2, e2, S2, acc, ws, s2, z2, r2, k⟩ := h
  obtain ⟨rfl, rfl, rfl⟩ := hR _ _ _ k
  have hF1 := free_of z1.exF hp
  have h0 := free_of z1.ex0 hF1
  have hR := free_of z1.exR hp
  have z3 := z2.asideOff h0 hR
  have z4 := Zok.unwipe z1 s2 z3
  refine q F2 (.ref p) H s2 z4 ⟨p, rfl, z2.asideF h0, z2.asideS, hR, fun i d h1 h2 => ?_, ws, z2.asideAt, r2⟩
  obtain ⟨a, q1, _, _, _, q5⟩ := z4.slot i _ h1
  rw [unwipe_get] at h1
  by_cases hi : i ∈ vs
  · rw [if_pos hi] at h1
    cases q : e2[i]? with
    | none => rw [q] at h1; cases h1
    | some u =>
      rw [q] at h1
      have h : some (keepS env[i]?) = some (Sl.own d) := h1
      unfold keepS at h
      split at h <;> cases h
  · rw [if_neg hi] at h1
    refine z2.asideN i d h1 ?_
    rw [wipe_get, if_neg hi]
    exact h2
/-- [elt for target in iter if ..] -/
theorem lc_of {vs : List Nat} {t : Tg} {mi : M (List D)} {mc : M Bool} {me : EM} {Q : VK} (hv : ∀ i ∈ t.vars, i ∈ vs) (h : ET G W (eLc vs t mi mc me) σ H Q) : tLc (IT G W mi) (GT G t) (BT G W0 mc) (ET G W0 me) vs σ H Q := by
  obtain ⟨B, F, env, S, z, p⟩ := h
  refine ⟨B, F, env, S, z, PstI.bindE p ?_⟩
  intro F1 env1 S1 ds J H1 s1 z1 wk p1 P hP
  have hF1 := free_of z1.exF hP
  have h0 := free_of z1.ex0 hF1
  cases e : lcL vs t mc me ds [] (wipeE env1 vs) S1 with
  | bad => simp only [e] at p1; exact p1.elim
  | err x a b => simp only [e] at p1; exact p1.elim
  | ok accF eF SF =>
    simp only [e] at p1
    refine ⟨fun i n H => n = ds.length - i ∧ i ≤ ds.length ∧ LcAt G B F1 vs σ P (fun acc e S => lcL vs t mc me (ds.drop i) acc e S = .ok accF eF SF) H, ⟨_, rfl, Nat.zero_le _, .start z1 hP e⟩, ?_⟩
    rintro i n H ⟨rfl, hi, at'⟩
    by_cases hlt : i < ds.length
    · obtain ⟨F2, e2, S2, acc, ws, s2, z2, r2, k⟩ := at'
      have w2 : Same F1 H := s2.trans z2.exF
      refine .inr ⟨wk.goes i H hlt w2, LcAt G B F1 vs σ P (fun acc e S => lcL vs t mc me (ds.drop (i + 1)) acc e S = .ok accF eF SF), fun H' q => ⟨ds.length - (i + 1), by omega, rfl, hlt, q⟩, fun x H' y => ?_⟩
      obtain ⟨rfl, d, hd, r⟩ := wk.yields i H x H' hlt w2 y
      have k' := k
      rw [drop_get hd] at k'
      obtain ⟨e1', _, _, _, hb, _⟩ := lcL_cons (r := (accF, eF, SF)) k'
      refine ⟨_, F2, e2, S2, d, e1', z2, r.mono s2, hb, fun σ' off z' => ?_⟩
      have hσ := off.wipe hv
      exact ⟨hσ, lc_turn (r := (accF, eF, SF)) hd s2 h0 k hb z' r2 hσ⟩
    · have e : i = ds.length := by omega
      subst e
      have w2 : Same F1 H := by obtain ⟨F2, e2, S2, acc, ws, s2, z2, r2, k⟩ := at'; exact s2.trans z2.exF
      refine .inl ⟨wk.stops H w2, lc_end z1 hP (fun acc e S h => ?_) p1 at'⟩
      rw [List.drop_length] at h
      cases h
      exact ⟨rfl, rfl, rfl⟩
theorem lc_of2 {vs : List Nat} {t t' : Tg} {mi : M (List D)} {mc : M Bool} {me : EM} {Q : VK} (hv : ∀ i ∈ (Tg.t [t, t']).vars, i ∈ vs) (h : ET G W (eLc vs (.t [t, t']) mi mc me) σ H Q) : tLc (IT2 G W mi) (GT2 G t t') (BT G W0 mc) (ET G W0 me) vs σ H Q := by
  obtain ⟨B, F, env, S, z, p⟩ := h
  refine ⟨B, F, env, S, z, PstI.bindE p ?_⟩
  intro F1 env1 S1 ds J H1 s1 z1 wk p1 P hP
  have hF1 := free_of z1.exF hP
  have h0 := free_of z1.ex0 hF1
  cases e : lcL vs (.t [t, t']) mc me ds [] (wipeE env1 vs) S1 with
  | bad => simp only [e] at p1; exact p1.elim
  | err x a b => simp only [e] at p1; exact p1.elim
  | ok accF eF SF =>
    simp only [e] at p1
    refine ⟨fun i n H => n = ds.length - i ∧ i ≤ ds.length ∧ LcAt G B F1 vs σ P (fun acc e S => lcL vs (.t [t, t']) mc me (ds.drop i) acc e S = .ok accF eF SF) H, ⟨_, rfl, Nat.zero_le _, .start z1 hP e⟩, ?_⟩
    rintro i n H ⟨rfl, hi, at'⟩
    by_cases hlt : i < ds.length
    · obtain ⟨F2, e2, S2, acc, ws, s2, z2, r2, k⟩ := at'
      have w2 : Same F1 H := s2.trans z2.exF
      refine .inr ⟨wk.goes i H hlt w2, LcAt G B F1 vs σ P (fun acc e S => lcL vs (.t [t, t']) mc me (ds.drop (i + 1)) acc e S = .ok accF eF SF), fun H' q => ⟨ds.length - (i + 1), by omega, rfl, hlt, q⟩, fun x H' y => ?_⟩
      obtain ⟨T, v, w, d, d', rfl, hT, rfl, hd, r, r'⟩ := wk.yields i H x H' hlt w2 y
      have k' := k
      rw [drop_get hd] at k'
      obtain ⟨e1', _, _, _, hb, _⟩ := lcL_cons (r := (accF, eF, SF)) k'
      refine ⟨_, F2, e2, S2, d, d', e1', ⟨T, v, w, rfl, upd_same, r.mono s2, r'.mono s2⟩, z2.laidO hT, hb, fun σ' off z' => ?_⟩
      have hσ := off.wipe hv
      exact ⟨hσ, lc_turn (r := (accF, eF, SF)) hd s2 h0 k hb z' r2 hσ⟩
    · have e : i = ds.length := by omega
      subst e
      have w2 : Same F1 H := by obtain ⟨F2, e2, S2, acc, ws, s2, z2, r2, k⟩ := at'; exact s2.trans z2.exF
      refine .inl ⟨wk.stops H w2, lc_end z1 hP (fun acc e S h => ?_) p1 at'⟩
      rw [List.drop_length] at h
      cases h
      exact ⟨rfl, rfl, rfl⟩
end

/-! ### the rules -/
section
variable {X : Cx} {G : Gc} {W : WX} {elt tg iter : Expr} {ifs : List Expr} {scope : Scope} {own : List (Str × Nat)} {pos : Pos} {t t' : Tg} {mi : M (List D)} {mc : M Bool} {me : EM}
/-- what holds in each block of the comprehension -/
abbrev InBlk (X : Cx) (scope : Scope) (p : Cx → Prop) : Prop := ∀ (s : Shared) (H : Hp) (C : Addr) (cl : List (Str × Addr)) (fp : List Addr), p (X.blk s H scope (compEnvC scope cl C X.env) fp)
theorem pd_lc (hc : X.calm = true) (hN : X.N.Nodup) (hi : PI X tg iter (IT G W mi)) (ok : BlkOk X.N X.env.scope scope own) (hv : ∀ i ∈ t.vars, i ∈ own.map (·.2))
    (hg : InBlk X scope fun Y => PG Y tg (GT G t)) (ht : InBlk X scope fun Y => PTs Y ifs (BT G W0 mc)) (he : InBlk X scope fun Y => PE Y elt (ET G W0 me)) (hs : ∀ x, foldedSetIterable iter X.env x = pure x := by intro _; rfl) :
    PE X (.ListComp elt [⟨tg, iter, ifs, 0⟩] scope pos) (ET G W (eLc (own.map (·.2)) t mi mc me)) := (pe_lc hc hN hi ok hg ht he hs).imp fun _ _ _ h => lc_of hv h
theorem pd_lcP (hc : X.calm = true) (hN : X.N.Nodup) (hi : PI X tg iter (IT2 G W mi)) (ok : BlkOk X.N X.env.scope scope own) (hv : ∀ i ∈ (Tg.t [t, t']).vars, i ∈ own.map (·.2))
    (hg : InBlk X scope fun Y => PG Y tg (GT2 G t t')) (ht : InBlk X scope fun Y => PTs Y ifs (BT G W0 mc)) (he : InBlk X scope fun Y => PE Y elt (ET G W0 me)) (hs : ∀ x, foldedSetIterable iter X.env x = pure x := by intro _; rfl) :
    PE X (.ListComp elt [⟨tg, iter, ifs, 0⟩] scope pos) (ET G W (eLc (own.map (·.2)) (.t [t, t']) mi mc me)) := (pe_lc hc hN hi ok hg ht he hs).imp fun _ _ _ h => lc_of2 hv h
theorem tAsg_of {i : Nat} {te : TE} {ma : EM} (k : ∀ σ H Q, ET G W ma σ H Q → te σ H Q) {D : Ends} {σ : L2.St} {H : Hp} (h : ST G W (sSet i ma) D σ H) : tAsg te (gName i) D σ H := by
  obtain ⟨B, F, env, S, z, p⟩ := h
  refine k σ H _ ⟨B, F, env, S, z, (Pst.bindS (r := ma env S) p).imp ?_⟩
  rintro v H1 ⟨F1, env1, S1, ev, s1, z1, q1, p1⟩
  exact setE_ok z1 q1 p1
variable {i : Nat} {y : Str} {py spos : Pos}
theorem pds_setLc (hc : X.calm = true) (hN : X.N.Nodup) (hy : X.N[i]? = some y) (hyl : X.env.scope.names.lookup y = some .local)
    (hsw : swapsWith (.ListComp elt [⟨tg, iter, ifs, 0⟩] scope pos) (some (.Name y py)) spos.line X.env = pure true) (hi : PI X tg iter (IT G W mi)) (ok : BlkOk X.N X.env.scope scope own) (hv : ∀ i ∈ t.vars, i ∈ own.map (·.2))
    (hg : InBlk X scope fun Y => PG Y tg (GT G t)) (ht : InBlk X scope fun Y => PTs Y ifs (BT G W0 mc)) (he : InBlk X scope fun Y => PE Y elt (ET G W0 me)) (hs : ∀ x, foldedSetIterable iter X.env x = pure x := by intro _; rfl) :
    PS X (.Assign [.Name y py] (.ListComp elt [⟨tg, iter, ifs, 0⟩] scope pos) spos) (ST G W (sSet i (eLc (own.map (·.2)) t mi mc me))) := (ps_setLc hc hN hy hyl hsw hi ok hg ht he hs).imp fun _ _ _ h => tAsg_of (fun _ _ _ h => lc_of hv h) h
theorem pds_setLcP (hc : X.calm = true) (hN : X.N.Nodup) (hy : X.N[i]? = some y) (hyl : X.env.scope.names.lookup y = some .local)
    (hsw : swapsWith (.ListComp elt [⟨tg, iter, ifs, 0⟩] scope pos) (some (.Name y py)) spos.line X.env = pure true) (hi : PI X tg iter (IT2 G W mi)) (ok : BlkOk X.N X.env.scope scope own) (hv : ∀ i ∈ (Tg.t [t, t']).vars, i ∈ own.map (·.2))
    (hg : InBlk X scope fun Y => PG Y tg (GT2 G t t')) (ht : InBlk X scope fun Y => PTs Y ifs (BT G W0 mc)) (he : InBlk X scope fun Y => PE Y elt (ET G W0 me)) (hs : ∀ x, foldedSetIterable iter X.env x = pure x := by intro _; rfl) :
    PS X (.Assign [.Name y py] (.ListComp elt [⟨tg, iter, ifs, 0⟩] scope pos) spos) (ST G W (sSet i (eLc (own.map (·.2)) (.t [t, t']) mi mc me))) := (ps_setLc hc hN hy hyl hsw hi ok hg ht he hs).imp fun _ _ _ h => tAsg_of (fun _ _ _ h => lc_of2 hv h) h
end
end PD

set_option Elab.async false
set_option linter.all false
set_option maxRecDepth 100000
set_option maxHeartbeats 4000000
/-! PD6: comprehensions of two clauses; iterables. -/
namespace PD
open PySem PySem.Spec PyProof.Rows L2

/-- a kind of walk with its target -/
structure Kd (G : Gc) (Wk : Hp → It → List D → Prop) (g : TG) (t : Tg) : Prop where
  goes : ∀ F J ds i H, Wk F J ds → i < ds.length → Same F H → J.go i H
  stops : ∀ F J ds H, Wk F J ds → Same F H → J.stop ds.length H
  yld : ∀ F1 J ds i H x H', Wk F1 J ds → i < ds.length → Same F1 H → J.yld i H x H' → ∃ d, ds[i]? = some d ∧ ∀ B F2 e S σ e1 Q, Same F1 F2 → Zok G B F2 e S σ H → bindT t d e = some e1 → (∀ σ', Off t.vars σ σ' → Zok G B F2 e1 S σ' H' → Q σ' H') → g x σ H' Q
theorem kd_plain {G : Gc} {t : Tg} : Kd G (Wlk G) (GT G t) t := ⟨fun _ _ _ i H w h s => w.goes i H h s, fun _ _ _ H w s => w.stops H s, fun F1 J ds i H x H' w hi s y => by
  obtain ⟨rfl, d, hd, r⟩ := w.yields i H x H' hi s y
  exact ⟨d, hd, fun B F2 e S σ e1 Q s2 z hb q => ⟨B, F2, e, S, d, e1, z, r.mono s2, hb, q⟩⟩⟩
theorem kd_pair {G : Gc} {t t' : Tg} : Kd G (Wlk2 G) (GT2 G t t') (.t [t, t']) := ⟨fun _ _ _ i H w h s => w.goes i H h s, fun _ _ _ H w s => w.stops H s, fun F1 J ds i H x H' w hi s y => by
  obtain ⟨T, v, v', d, d', rfl, hT, rfl, hd, r, r'⟩ := w.yields i H x H' hi s y
  exact ⟨_, hd, fun B F2 e S σ e1 Q s2 z hb q => ⟨B, F2, e, S, d, d', e1, ⟨T, v, v', rfl, upd_same, r.mono s2, r'.mono s2⟩, z.laidO hT, hb, q⟩⟩⟩

def lc2L (vs vs1 : List Nat) (t : Tg) (mc : M Bool) (mi1 : M (List D)) (t1 : Tg) (mc1 : M Bool) (me : EM) : List D → List D → M (List D)
  | [], acc => fun e S => .ok acc e S
  | d :: ds, acc => fun e S => match bindT t d e with
    | some e1 => match mc e1 S with
      | .ok b e2 S2 => if b = true then match mi1 e2 S2 with
          | .ok ds1 e3 S3 => match lcL vs1 t1 mc1 me ds1 acc (wipeE e3 vs1) S3 with
            | .ok acc' e4 S4 => lc2L vs vs1 t mc mi1 t1 mc1 me ds acc' (wipeE e4 vs) S4
            | _ => .bad
          | _ => .bad
        else lc2L vs vs1 t mc mi1 t1 mc1 me ds acc (wipeE e2 vs) S2
      | _ => .bad
    | none => .bad
def eLc2 (vs vs1 : List Nat) (t : Tg) (it : M (List D)) (mc : M Bool) (mi1 : M (List D)) (t1 : Tg) (mc1 : M Bool) (me : EM) : EM := it.then fun ds => fun e S => match lc2L vs vs1 t mc mi1 t1 mc1 me ds [] (wipeE e vs) S with
  | .ok acc e' S' => .ok (.fresh (.lst acc)) (unwipe e vs e') S'
  | _ => .bad
section
variable {G : Gc} {B : Bs} {W : WX} {F F' : Hp} {env env' : List Sl} {S S' : DS} {σ : L2.St} {H H' : Hp}
theorem lc2L_cons {vs vs1 : List Nat} {t t1 : Tg} {mc mc1 : M Bool} {mi1 : M (List D)} {me : EM} {d : D} {ds acc : List D} {e : List Sl} {S : DS} {r : List D × List Sl × DS} (h : lc2L vs vs1 t mc mi1 t1 mc1 me (d :: ds) acc e S = .ok r.1 r.2.1 r.2.2) :
    ∃ e1 b e2 S2, bindT t d e = some e1 ∧ mc e1 S = .ok b e2 S2 ∧ ((b = true ∧ ∃ ds1 e3 S3 acc' e4 S4, mi1 e2 S2 = .ok ds1 e3 S3 ∧ lcL vs1 t1 mc1 me ds1 acc (wipeE e3 vs1) S3 = .ok acc' e4 S4 ∧ lc2L vs vs1 t mc mi1 t1 mc1 me ds acc' (wipeE e4 vs) S4 = .ok r.1 r.2.1 r.2.2) ∨
      (b = false ∧ lc2L vs vs1 t mc mi1 t1 mc1 me ds acc (wipeE e2 vs) S2 = .ok r.1 r.2.1 r.2.2)) := by
  unfold lc2L at h
  cases e1 : bindT t d e with
  | none => rw [e1] at h; cases h
  | some e1' =>
    rw [e1] at h
    simp only at h
    cases e2 : mc e1' S with
    | bad => rw [e2] at h; cases h
    | err x a b => rw [e2] at h; cases h
    | ok b e2' S2 =>
      rw [e2] at h
      simp only at h
      refine ⟨e1', b, e2', S2, rfl, e2, ?_⟩
      cases b with
      | false => exact .inr ⟨rfl, by simpa using h⟩
      | true =>
        simp only [if_true] at h
        refine .inl ⟨rfl, ?_⟩
        cases e3 : mi1 e2' S2 with
        | bad => rw [e3] at h; cases h
        | err x a b => rw [e3] at h; cases h
        | ok ds1 e3' S3 =>
          rw [e3] at h
          simp only at h
          cases e4 : lcL vs1 t1 mc1 me ds1 acc (wipeE e3' vs1) S3 with
          | bad => rw [e4] at h; cases h
          | err x a b => rw [e4] at h; cases h
          | ok acc' e4' S4 =>
            rw [e4] at h
            exact ⟨ds1, e3', S3, acc', e4', S4, rfl, e4, h⟩
theorem wipe_wipe {σ : L2.St} {vs vs1 : List Nat} (h : ∀ i ∈ vs1, i ∈ vs) : L2.wipe (L2.wipe σ vs1) vs = L2.wipe σ vs := by
  apply List.ext_getElem?
  intro i
  rw [wipe_get, wipe_get, wipe_get]
  by_cases hi : i ∈ vs
  · rw [if_pos hi, if_pos hi]
    by_cases h1 : i ∈ vs1
    · rw [if_pos h1]
      cases σ[i]? <;> rfl
    · rw [if_neg h1]
  · rw [if_neg hi, if_neg hi, if_neg (fun m => hi (h i m))]
theorem lc2_of {Wk Wk1 : Hp → It → List D → Prop} {g g1 : TG} {vs vs1 : List Nat} {t t1 : Tg} {mi mi1 : M (List D)} {mc mc1 : M Bool} {me : EM} {Q : VK} (kd : Kd G Wk g t) (kd1 : Kd G Wk1 g1 t1) (hv : ∀ i ∈ t.vars, i ∈ vs) (hv1 : ∀ i ∈ t1.vars, i ∈ vs1) (hvv : ∀ i ∈ vs1, i ∈ vs)
    (h : ET G W (eLc2 vs vs1 t mi mc mi1 t1 mc1 me) σ H Q) : tLc2 (fun σ H R => ∃ B F env S, Zok G B F env S σ H ∧ PstI Wk G B W F σ R (mi env S)) g (BT G W0 mc) (fun σ H R => ∃ B F env S, Zok G B F env S σ H ∧ PstI Wk1 G B W0 F σ R (mi1 env S)) g1 (BT G W0 mc1) (ET G W0 me) vs vs1 σ H Q := by
  obtain ⟨B, F, env, S, z, p⟩ := h
  refine ⟨B, F, env, S, z, PstI.bindE p ?_⟩
  intro F1 env1 S1 ds J H1 s1 z1 wk p1 P hP
  have hF1 := free_of z1.exF hP
  have h0 := free_of z1.ex0 hF1
  cases e : lc2L vs vs1 t mc mi1 t1 mc1 me ds [] (wipeE env1 vs) S1 with
  | bad => simp only [e] at p1; exact p1.elim
  | err x a b => simp only [e] at p1; exact p1.elim
  | ok accF eF SF =>
    simp only [e] at p1
    refine ⟨fun i n H => n = ds.length - i ∧ i ≤ ds.length ∧ LcAt G B F1 vs σ P (fun acc e S => lc2L vs vs1 t mc mi1 t1 mc1 me (ds.drop i) acc e S = .ok accF eF SF) H, ⟨_, rfl, Nat.zero_le _, .start z1 hP e⟩, ?_⟩
    rintro i n H ⟨rfl, hi, at'⟩
    by_cases hlt : i < ds.length
    · obtain ⟨F2, e2, S2, acc, ws, s2, z2, r2, k⟩ := at'
      have w2 : Same F1 H := s2.trans z2.exF
      refine .inr ⟨kd.goes _ _ _ i H wk hlt w2, LcAt G B F1 vs σ P (fun acc e S => lc2L vs vs1 t mc mi1 t1 mc1 me (ds.drop (i + 1)) acc e S = .ok accF eF SF), fun H' q => ⟨ds.length - (i + 1), by omega, rfl, hlt, q⟩, fun x H' y => ?_⟩
      obtain ⟨d, hd, gx⟩ := kd.yld _ _ _ i H x H' wk hlt w2 y
      rw [drop_get hd] at k
      obtain ⟨e1', b, e3, S3, hb, hm, k3⟩ := lc2L_cons (r := (accF, eF, SF)) k
      refine gx _ F2 e2 S2 _ e1' _ s2 z2 hb fun σ2 off z2' => ?_
      have hσ := off.wipe hv
      refine ⟨hσ, _, F2, e1', S2, z2', ?_⟩
      rw [hm]
      intro F3 H3 s3 z3
      rcases k3 with ⟨rfl, ds1, e4, S4, acc', e5, S5, k4, k5, k6⟩ | ⟨rfl, k3⟩
      · simp only [if_true]
        refine ⟨_, F3, e3, S3, z3, ?_⟩
        rw [k4]
        intro F4 J1 H4 s4 z4 wk1
        refine ⟨fun j n H => n = ds1.length - j ∧ j ≤ ds1.length ∧ LcAt G B F4 vs1 σ2 P (fun acc e S => lcL vs1 t1 mc1 me (ds1.drop j) acc e S = .ok acc' e5 S5) H, ⟨_, rfl, Nat.zero_le _, F4, _, S4, acc, ws, Same.refl F4, z4.wipe vs1, (r2.mono s3).mono s4, k5⟩, ?_⟩
        rintro j n H ⟨rfl, hj, at1⟩
        obtain ⟨F5, e6, S6, acc6, ws6, s5, z5, r5, k7⟩ := at1
        have w5 : Same F4 H := s5.trans z5.exF
        by_cases hlt1 : j < ds1.length
        · refine .inr ⟨kd1.goes _ _ _ j H wk1 hlt1 w5, LcAt G B F4 vs1 σ2 P (fun acc e S => lcL vs1 t1 mc1 me (ds1.drop (j + 1)) acc e S = .ok acc' e5 S5), fun H' q => ⟨ds1.length - (j + 1), by omega, rfl, hlt1, q⟩, fun x H' y => ?_⟩
          obtain ⟨d1, hd1, gx1⟩ := kd1.yld _ _ _ j H x H' wk1 hlt1 w5 y
          have k8 := k7
          rw [drop_get hd1] at k8
          obtain ⟨e1'', _, _, _, hb1, _⟩ := lcL_cons (r := (acc', e5, S5)) k8
          refine gx1 _ F5 e6 S6 _ e1'' _ s5 z5 hb1 fun σ3 off1 z6 => ?_
          have hσ1 := off1.wipe hv1
          exact ⟨hσ1, lc_turn (r := (acc', e5, S5)) hd1 s5 h0 k7 hb1 z6 r5 hσ1⟩
        · have e : j = ds1.length := by omega
          subst e
          refine .inl ⟨kd1.stops _ _ _ H wk1 w5, ?_⟩
          rw [List.drop_length] at k7
          cases k7
          refine ⟨F5, _, S5, acc', ws6, s2.trans (s3.trans (s4.trans s5)), ?_, r5, k6⟩
          have z7 := z5.wipe vs
          rw [wipe_wipe hvv, hσ] at z7
          exact z7
      · simp only [Bool.false_eq_true, if_false]
        refine ⟨F3, _, S3, acc, ws, s2.trans s3, ?_, r2.mono s3, k3⟩
        have z5 := z3.wipe vs
        rw [hσ] at z5
        exact z5
    · have e : i = ds.length := by omega
      subst e
      have w2 : Same F1 H := by obtain ⟨F2, e2, S2, acc, ws, s2, z2, r2, k⟩ := at'; exact s2.trans z2.exF
      refine .inl ⟨kd.stops _ _ _ H wk w2, lc_end z1 hP (fun acc e S h => ?_) p1 at'⟩
      rw [List.drop_length] at h
      cases h
      exact ⟨rfl, rfl, rfl⟩
end
section
variable {X : Cx} {G : Gc} {W : WX} {elt tg iter tg1 iter1 : Expr} {ifs ifs1 : List Expr} {scope : Scope} {own : List (Str × Nat)} {vs1 : List Nat} {pos : Pos} {t t1 : Tg} {mi mi1 : M (List D)} {mc mc1 : M Bool} {me : EM} {g g1 : TG} {wi wi1 : TI} {Wk Wk1 : Hp → It → List D → Prop}
/-- the kinds: k, k1 are kd_plain or kd_pair; wi is IT or IT2 -/
theorem pd_lc2 (kd : Kd G Wk g t) (kd1 : Kd G Wk1 g1 t1) (hc : X.calm = true) (hN : X.N.Nodup) (hi : PI X tg iter (fun σ H R => ∃ B F env S, Zok G B F env S σ H ∧ PstI Wk G B W F σ R (mi env S))) (ok : BlkOk X.N X.env.scope scope own)
    (hv : ∀ i ∈ t.vars, i ∈ own.map (·.2)) (hv1 : ∀ i ∈ t1.vars, i ∈ vs1) (hvv : ∀ i ∈ vs1, i ∈ own.map (·.2))
    (hg : InBlk X scope fun Y => PG Y tg g) (ht : InBlk X scope fun Y => PTs Y ifs (BT G W0 mc))
    (hi1 : InBlk X scope fun Y => PI Y tg1 iter1 (fun σ H R => ∃ B F env S, Zok G B F env S σ H ∧ PstI Wk1 G B W0 F σ R (mi1 env S)))
    (hg1 : InBlk X scope fun Y => PG Y tg1 g1) (ht1 : InBlk X scope fun Y => PTs Y ifs1 (BT G W0 mc1))
    (he : InBlk X scope fun Y => PE Y elt (ET G W0 me)) (hs : ∀ x, foldedSetIterable iter X.env x = pure x := by intro _; rfl) (hs1 : ∀ env x, foldedSetIterable iter1 env x = pure x := by intro _ _; rfl) :
    PE X (.ListComp elt [⟨tg, iter, ifs, 0⟩, ⟨tg1, iter1, ifs1, 0⟩] scope pos) (ET G W (eLc2 (own.map (·.2)) vs1 t mi mc mi1 t1 mc1 me)) :=
  (pe_lc2 hc hN hi ok hvv hg ht hi1 hg1 ht1 he hs hs1).imp fun _ _ _ h => lc2_of kd kd1 hv hv1 hvv h
theorem pds_setLc2 {i : Nat} {y : Str} {py spos : Pos} (kd : Kd G Wk g t) (kd1 : Kd G Wk1 g1 t1) (hc : X.calm = true) (hN : X.N.Nodup) (hy : X.N[i]? = some y) (hyl : X.env.scope.names.lookup y = some .local)
    (hsw : swapsWith (.ListComp elt [⟨tg, iter, ifs, 0⟩, ⟨tg1, iter1, ifs1, 0⟩] scope pos) (some (.Name y py)) spos.line X.env = pure true)
    (hi : PI X tg iter (fun σ H R => ∃ B F env S, Zok G B F env S σ H ∧ PstI Wk G B W F σ R (mi env S))) (ok : BlkOk X.N X.env.scope scope own)
    (hv : ∀ i ∈ t.vars, i ∈ own.map (·.2)) (hv1 : ∀ i ∈ t1.vars, i ∈ vs1) (hvv : ∀ i ∈ vs1, i ∈ own.map (·.2))
    (hg : InBlk X scope fun Y => PG Y tg g) (ht : InBlk X scope fun Y => PTs Y ifs (BT G W0 mc))
    (hi1 : InBlk X scope fun Y => PI Y tg1 iter1 (fun σ H R => ∃ B F env S, Zok G B F env S σ H ∧ PstI Wk1 G B W0 F σ R (mi1 env S)))
    (hg1 : InBlk X scope fun Y => PG Y tg1 g1) (ht1 : InBlk X scope fun Y => PTs Y ifs1 (BT G W0 mc1))
    (he : InBlk X scope fun Y => PE Y elt (ET G W0 me)) (hs : ∀ x, foldedSetIterable iter X.env x = pure x := by intro _; rfl) (hs1 : ∀ env x, foldedSetIterable iter1 env x = pure x := by intro _ _; rfl) :
    PS X (.Assign [.Name y py] (.ListComp elt [⟨tg, iter, ifs, 0⟩, ⟨tg1, iter1, ifs1, 0⟩] scope pos) spos) (ST G W (sSet i (eLc2 (own.map (·.2)) vs1 t mi mc mi1 t1 mc1 me))) :=
  (ps_setLc2 hc hN hy hyl hsw hi ok hvv hg ht hi1 hg1 ht1 he hs hs1).imp fun _ _ _ h => tAsg_of (fun _ _ _ h => lc2_of kd kd1 hv hv1 hvv h) h
end

/-! ### iterables -/
def asInt : D → Option Int
  | .int i => some i
  | _ => none
def upTo (lo : Int) (n : Nat) : List D := (List.range n).map fun (i : Nat) => D.int (lo + (i : Int))
def small62 (i : Int) : Bool := decide (-(2 ^ 62) ≤ i) && decide (i < 2 ^ 62)
def iRange1 (m : M (List EV)) : M (List D) := m.then fun xs => fun e S => match dats e xs with
  | some [.int j] => if small62 j = true then .ok (upTo 0 j.toNat) e S else .bad
  | _ => .bad
def iRange2 (m : M (List EV)) : M (List D) := m.then fun xs => fun e S => match dats e xs with
  | some [.int i, .int j] => if (small62 i && small62 j) = true then .ok (upTo i (j - i).toNat) e S else .bad
  | _ => .bad
section
variable {X : Cx} {G : Gc} {W : WX} {tg a b : Expr} {ma : EM} {mr : M (List EV)} {p pos : Pos}
theorem small62_iff {i : Int} : small62 i = true ↔ -(2 ^ 62) ≤ i ∧ i < 2 ^ 62 := by unfold small62; simp
theorem wlk_list {F : Hp} {K : PySem.W.Frag} {a : Addr} {ds : List D} {vs : List V} (h : Rd F a (.lst vs)) (r : Reps G F ds vs) : Wlk G F (Itl K a) ds := by
  have hl := r.length
  have q : ∀ H, Same F H → SqL K H a vs := fun H s => .inl (rd_mono s h)
  refine ⟨fun i H hi s => ⟨vs, vs[i], q H s, by simp [show i < vs.length by omega]⟩, fun H s => ⟨vs, q H s, by omega⟩, fun i H x H' _ s y => ⟨y.1, ?_⟩⟩
  obtain ⟨d, hd, rd⟩ := r.getV (y.2 vs (q H s))
  exact ⟨d, hd, rd⟩
theorem wlk_kl {F : Hp} {a : Addr} {ns : List Int} (h : SqL G.K F a (ns.map V.int)) : Wlk G F (Itl G.K a) (ns.map D.int) := by
  have q : ∀ H, Same F H → SqL G.K H a (ns.map V.int) := fun H s => sqL_mono s h
  refine ⟨fun i H hi s => ⟨_, V.int (ns[i]'(by simpa using hi)), q H s, by simp [show i < ns.length by simpa using hi]⟩, fun H s => ⟨_, q H s, by simp⟩, fun i H x H' hi s y => ⟨y.1, ?_⟩⟩
  have e := y.2 _ (q H s)
  rw [List.getElem?_map] at e
  cases e2 : ns[i]? with
  | none => rw [e2] at e; cases e
  | some n => rw [e2] at e; cases e; exact ⟨.int n, by rw [List.getElem?_map, e2]; rfl, rfl⟩
theorem wlk_tup {F : Hp} {a : Addr} {ds : List D} {vs : List V} (h : TupAt G.K F a vs) (r : Reps G F ds vs) : Wlk G F (Itt G.K a) ds := by
  have hl := r.length
  have q : ∀ H, Same F H → SqT G.K H a vs := fun H s => (h.mono s).sq
  refine ⟨fun i H hi s => ⟨vs, vs[i], q H s, by simp [show i < vs.length by omega]⟩, fun H s => ⟨vs, q H s, by omega⟩, fun i H x H' _ s y => ⟨y.1, ?_⟩⟩
  obtain ⟨d, hd, rd⟩ := r.getV (y.2 vs (q H s))
  exact ⟨d, hd, rd⟩
theorem wlk_range {F : Hp} {lo : Int} {n : Nat} : Wlk G F (Itr lo n) (upTo lo n) := by
  have hl : (upTo lo n).length = n := by simp [upTo]
  refine ⟨fun i H hi s => by rw [hl] at hi; exact hi, fun H s => by rw [hl]; exact Nat.le_refl _, fun i H x H' hi s y => ⟨y.1, .int (lo + (i : Int)), ?_, y.2⟩⟩
  rw [hl] at hi
  simp [upTo, hi]
/-- signs of a text -/
def signs (s : Str) : List D := s.cps.toList.map fun c => D.str ⟨#[c]⟩
theorem wlk_str {F : Hp} {z : Str} : Wlk G F (Its z) (signs z) := by
  have hl : (signs z).length = z.cps.size := by simp [signs]
  refine ⟨fun i H hi s => by rw [hl] at hi; exact hi, fun H s => by rw [hl]; exact Nat.le_refl _, fun i H x H' hi s y => ?_⟩
  obtain ⟨e, c, hc, rfl⟩ := y
  refine ⟨e, .str ⟨#[c]⟩, ?_, rfl⟩
  simp [signs, hc]
/-- what a sequence gives -/
def seqI : D → Option (List D)
  | .lst ds => some ds
  | .tup ds => some ds
  | .str s => some (signs s)
  | .kl ns => some (ns.map D.int)
  | _ => none
/-- a list, a tuple, a text, walked: from now on it is frozen -/
def iSeq (m : EM) : M (List D) := m.then fun a => fun e S => match take e a with
  | some (d, e') => match seqI d with
    | some ds => .ok ds e' S
    | none => .bad
  | none => .bad
theorem pdi_seq {l : Expr} (hK : X.K = G.K) (h : PE X l (ET G W ma)) : PI X tg l (IT G W (iSeq ma)) := by
  refine ⟨fun pins s σ H R I ⟨B, F, env, S, z, p⟩ => ?_⟩
  refine thn (h.run pins s σ H (fun x H1 => ∃ F1 env1 S1 d ds, Same F F1 ∧ Zok G B F1 env1 S1 σ H1 ∧ Rep G F1 d x ∧ seqI d = some ds ∧ ∀ J, Wlk G F1 J ds → R J H1) I ⟨B, F, env, S, z, ?_⟩) fun v s1 ⟨x, H1, I1, r1, q1⟩ => ?_
  · unfold iSeq M.then at p
    cases e : ma env S with
    | bad => rw [e] at p; exact p.elim
    | err y env1 S1 => rw [e] at p; exact p
    | ok ev env1 S1 =>
      rw [e] at p
      intro F1 v H1 s1 z1 q1
      simp only [RR.bind] at p
      cases e1 : take env1 ev with
      | none => rw [e1] at p; exact p.elim
      | some r =>
        obtain ⟨d, env2⟩ := r
        rw [e1] at p
        simp only at p
        cases e2 : seqI d with
        | none => rw [e2] at p; exact p.elim
        | some ds =>
          rw [e2] at p
          obtain ⟨F2, s2, z2, r2⟩ := take_ok z1 q1 e1
          exact ⟨F2, env2, S1, d, ds, s1.trans s2, z2, r2, e2, fun J w => p F2 J H1 (s1.trans s2) z2 w⟩
  · obtain ⟨F1, env1, S1, d, ds, s2, z1, r2, e2, q⟩ := q1
    cases d with
    | lst xs =>
      cases e2
      obtain ⟨a, vs, rfl, h1, h2⟩ := r2
      cases r1
      obtain ⟨its, rv, pl, hz⟩ := I1.list (.inl (rd_mono z1.exF h1))
      exact wpAny_pyIter_list pl.isList (pi_one (tk := s1.toks) I1 _ (turn_list a _) ⟨_, Heap.get?_push_size _ rfl, rfl, rfl⟩ (q _ (wlk_list h1 h2)))
    | tup xs =>
      cases e2
      obtain ⟨a, vs, rfl, h1, h2⟩ := r2
      cases r1
      obtain ⟨its, rv, pl, hz⟩ := I1.tuple (hK ▸ (h1.mono z1.exF).sq)
      exact wpAny_pyIter_tuple (show s1.heap.IsTuple a its.toArray from pl) (pi_one (tk := s1.toks) I1 _ (turn_tuple a _) ⟨_, Heap.get?_push_size _ rfl, rfl, rfl⟩ (q _ (hK ▸ wlk_tup h1 h2)))
    | kl ns =>
      cases e2
      obtain ⟨a, rfl, h1⟩ := r2
      cases r1
      obtain ⟨its, rv, pl, hz⟩ := I1.list (hK ▸ sqL_mono z1.exF h1)
      exact wpAny_pyIter_list pl.isList (pi_one (tk := s1.toks) I1 _ (turn_list a _) ⟨_, Heap.get?_push_size _ rfl, rfl, rfl⟩ (q _ (hK ▸ wlk_kl h1)))
    | str x =>
      cases e2
      have r2 : _ = V.str x := r2
      subst r2
      obtain ⟨t, rfl⟩ := r1
      cases ha : x.cps.all (· < 128)
      · exact wpAny_pyIter_wide ha (pi_one (tk := s1.toks) I1 _ (turn_str _ x t "str_iterator" (.inr rfl)) ⟨_, Heap.get?_push_size _ rfl, rfl, rfl⟩ (q _ wlk_str))
      · exact wpAny_pyIter_ascii ha (pi_one (tk := s1.toks) I1 _ (turn_str _ x t "str_ascii_iterator" (.inl rfl)) ⟨_, Heap.get?_push_size _ rfl, rfl, rfl⟩ (q _ wlk_str))
    | _ => cases e2
theorem PstI.bindA {Wk : Hp → It → List D → Prop} {B : Bs} {F : Hp} {σ : L2.St} {r : RR (List EV)} {k : List EV → M (List D)} {R : It → Hp → Prop} (p : PstI Wk G B W F σ R (r.bind k)) :
    PstA G B W F σ (fun vs H1 => ∃ F1 env1 S1 xs, Same F F1 ∧ Zok G B F1 env1 S1 σ H1 ∧ EVs G B F1 env1 S1 σ H1 vs xs ∧ PstI Wk G B W F1 σ R (k xs env1 S1)) r := by
  cases r with
  | bad => exact p
  | err x env1 S1 => exact p
  | ok ev env1 S1 =>
    refine fun F' v H' s z' q => ⟨F', env1, S1, ev, s, z', q, ?_⟩
    have p : PstI Wk G B W F σ R (k ev env1 S1) := p
    cases e : k ev env1 S1 with
    | bad => rw [e] at p; exact p
    | err x e2 S2 => rw [e] at p; exact ErrE.mono p s
    | ok ds e2 S2 => rw [e] at p; exact fun F'' J H' s' z' w => p F'' J H' (s.trans s') z' w
theorem pdi_range1 {p : Pos} (hg : Gl X "range") (hm : X.mg "range" = none) (ha : PA X [a] (AT G W mr)) (hs : starEach [a] X.env = [(false, eval a X.env)] := by rfl) : PI X tg (.Call (.Name "range" p) [a] [] pos) (IT G W (iRange1 mr)) :=
  (pi_range1 hg hm ha hs).imp fun σ H R ⟨B, F, env, S, z, p⟩ => by
    refine ⟨B, F, env, S, z, (PstI.bindA p).imp ?_⟩
    rintro vs H1 ⟨F1, env1, S1, xs, s1, z1, q1, p1⟩
    cases e : dats env1 xs with
    | none => simp only [e] at p1; exact p1.elim
    | some ds =>
      have r := dats_rep z1 q1 e
      simp only [e] at p1
      split at p1
      · rename_i j h
        cases h
        obtain ⟨v, w, rfl, r1, r2⟩ := r
        have r2 : w = [] := r2
        subst r2
        split at p1
        · rename_i hj
          have r1 := r1.rep z1.exF
          obtain ⟨h1, h2⟩ := small62_iff.mp hj
          exact ⟨j, by rw [show v = V.int j from r1], h1, h2, p1 F1 _ H1 (Same.refl F1) z1 wlk_range⟩
        · exact p1.elim
      · exact p1.elim
theorem pdi_range2 {p : Pos} (hg : Gl X "range") (hm : X.mg "range" = none) (ha : PA X [a, b] (AT G W mr)) (hs : starEach [a, b] X.env = [(false, eval a X.env), (false, eval b X.env)] := by rfl) (hs2 : starEach [b] X.env = [(false, eval b X.env)] := by rfl) : PI X tg (.Call (.Name "range" p) [a, b] [] pos) (IT G W (iRange2 mr)) :=
  (pi_range2 hg hm ha hs hs2).imp fun σ H R ⟨B, F, env, S, z, p⟩ => by
    refine ⟨B, F, env, S, z, (PstI.bindA p).imp ?_⟩
    rintro vs H1 ⟨F1, env1, S1, xs, s1, z1, q1, p1⟩
    cases e : dats env1 xs with
    | none => simp only [e] at p1; exact p1.elim
    | some ds =>
      have r := dats_rep z1 q1 e
      simp only [e] at p1
      split at p1
      · rename_i i j h
        cases h
        obtain ⟨v, w, rfl, r1, v2, w2, rfl, r2, r3⟩ := r
        have r3 : w2 = [] := r3
        subst r3
        split at p1
        · rename_i hj
          have r1 := r1.rep z1.exF
          have r2 := r2.rep z1.exF
          rw [Bool.and_eq_true] at hj
          obtain ⟨h1, h2⟩ := small62_iff.mp hj.1
          obtain ⟨h3, h4⟩ := small62_iff.mp hj.2
          exact ⟨i, j, by rw [show v = V.int i from r1, show v2 = V.int j from r2], ⟨h1, h2, h3, h4⟩, p1 F1 _ H1 (Same.refl F1) z1 wlk_range⟩
        · exact p1.elim
      · exact p1.elim
end
end PD

set_option Elab.async false
set_option linter.all false
set_option maxRecDepth 100000
set_option maxHeartbeats 4000000
/-! PD7: built-in functions over plain data. -/
namespace PD
open PySem PySem.Spec PyProof.Rows L2

section
variable {X : Cx} {G : Gc} {B : Bs} {F : Hp} {env : List Sl} {S : DS} {σ : L2.St} {H : Hp} {Q : VK}
theorem RepLs.one {d : D} {vs : List V} (h : RepLs G F H [d] vs) : ∃ v, vs = [v] ∧ RepL G F H d v := by
  obtain ⟨v, r, rfl, h1, h2⟩ := h
  have h2 : r = [] := h2
  subst h2
  exact ⟨v, rfl, h1⟩
theorem RepLs.two {d e : D} {vs : List V} (h : RepLs G F H [d, e] vs) : ∃ v w, vs = [v, w] ∧ RepL G F H d v ∧ RepL G F H e w := by
  obtain ⟨v, r, rfl, h1, h2⟩ := h
  obtain ⟨w, rfl, h3⟩ := RepLs.one h2
  exact ⟨v, w, rfl, h1, h3⟩
theorem PostV.here {d : D} {v : V} (p : PostV G B F σ Q (.val d) env S) (z : Zok G B F env S σ H) (r : Rep G F d v) : Q v H := p F v H (Same.refl F) z r
theorem PostV.lst {ds : List D} {vs : List V} {a : Addr} (p : PostV G B F σ Q (.fresh (.lst ds)) env S) (z : Zok G B F env S σ H) (ha : H a = none) (r : Reps G F ds vs) : Q (.ref a) (upd H a (.lst vs)) := by
  obtain ⟨z3, r3⟩ := new_lst z ha r
  exact p F _ _ (Same.refl F) z3 r3
theorem PostV.tupN {ds : List D} {vs : List V} {a : Addr} {o : Obj} (p : PostV G B F σ Q (.val (.tup ds)) env S) (z : Zok G B F env S σ H) (ha : H a = none) (ho : o.dict = none) (r : Reps G F ds vs) : Q (.ref a) (upd H a (.frz o (.tup vs))) := by
  obtain ⟨F', s', z3, r3⟩ := new_tup z ha ho r
  exact p F' _ _ s' z3 r3
/-- new things hang on frozen ones: what is read through the present heap is made of items that stand frozen -/
theorem RepL.seqR {d : D} {v : V} {ds : List D} (h : RepL G F H d v) (e : Same F H) (hd : d = .lst ds ∨ d = .tup ds) : ∃ a vs, v = .ref a ∧ (SqL G.K H a vs ∨ SqT G.K H a vs) ∧ Reps G F ds vs := by
  rcases hd with rfl | rfl
  · obtain ⟨a, vs, h1, h2, h3⟩ := h.lst e
    exact ⟨a, vs, h1, .inl (.inl h2), h3⟩
  · obtain ⟨a, vs, h1, h2, h3⟩ := h.tup
    exact ⟨a, vs, h1, .inr (h2.mono e).sq, h3⟩

/-! ### isinstance -/
def tyD : D → Option Ty
  | .non => some .non
  | .bl _ => some .bool
  | .int _ => some .int
  | .str _ => some .str
  | .tup _ => some .tuple
  | .lst _ => some .list
  | .dct _ _ => some .dict
  | _ => none
def isTy : Ty → Ty → Bool
  | .bool, .int => true
  | a, b => decide (a = b)
def anyTy (t : Ty) : List D → Option Bool
  | [] => some false
  | .ty T :: r => (anyTy t r).map fun b => isTy t T || b
  | _ => none
def isiF : List D → Option EV
  | [d, .ty T] => (tyD d).map fun t => .val (.bl (isTy t T))
  | [d, .tup ts] => match tyD d with
    | some t => (anyTy t ts).map fun b => .val (.bl b)
    | none => none
  | _ => none
theorem kit_is (K : PySem.W.Frag) (a b : Ty) : PySem.W.kitOne K (.type a.nm) (.type b.nm) = some (isTy a b) := by
  cases a <;> cases b <;> exact kit_ty (by decide +kernel)
theorem tyX_of {d : D} {v : V} {t : Ty} (h : RepL G F H d v) (e : Same F H) (ht : tyD d = some t) : TyX G.K H v (.type t.nm) := by
  cases d with
  | non => cases ht; have h := h.rep e; have h : v = _ := h; subst h; exact .base .non
  | bl b => cases ht; have h := h.rep e; have h : v = _ := h; subst h; exact .base (.bl b)
  | int b => cases ht; have h := h.rep e; have h : v = _ := h; subst h; exact .base (.int b)
  | str b => cases ht; have h := h.rep e; have h : v = _ := h; subst h; exact .base (.str b)
  | tup ds =>
    cases ht
    obtain ⟨a, vs, rfl, h1, _⟩ := h.tup
    rcases h1 with ⟨o, h1, _⟩ | ⟨o, its, n, h1, h2, _⟩
    · exact .fTuple (e _ _ h1)
    · exact .kTuple h1 h2
  | lst ds =>
    cases ht
    obtain ⟨a, vs, rfl, h1, _⟩ := h.lst e
    rcases h1 with h1 | ⟨o, h1⟩
    · exact .base (.lst h1)
    · exact .base (.frz h1)
  | dct ks ds =>
    cases ht
    obtain ⟨a, vs, rfl, ⟨kvs, h1, _⟩, _⟩ := h.dct e
    exact .base (.dK h1)
  | _ => cases ht
theorem anyTy_ok {K : PySem.W.Frag} {t : Ty} : ∀ {ts : List D} {b : Bool} {cs : List V} {F : Hp}, anyTy t ts = some b → Reps G F ts cs → ∃ us, Paired ClsV cs us ∧ PySem.W.kitAny K (.type t.nm) us = some b
  | [], b, cs, F, h, r => by
    have r : cs = [] := r
    subst r; cases h
    exact ⟨[], .nil, rfl⟩
  | .ty T :: ts, b, cs, F, h, ⟨v, r, e1, r1, r2⟩ => by
    subst e1
    have r1 : v = _ := r1
    subst r1
    unfold anyTy at h
    cases q2 : anyTy t ts with
    | none => rw [q2] at h; cases h
    | some b2 =>
      rw [q2] at h
      cases h
      obtain ⟨us, k1, k2⟩ := anyTy_ok q2 r2
      refine ⟨_, .cons (.ty _) k1, kitAny_cons (b := isTy t T) (kit_is K t T) (fun e => ?_) (fun e => by rw [e]; rfl)⟩
      simpa [e] using k2
  | .non :: _, _, _, _, h, _ => by cases h
  | .bl _ :: _, _, _, _, h, _ => by cases h
  | .int _ :: _, _, _, _, h, _ => by cases h
  | .str _ :: _, _, _, _, h, _ => by cases h
  | .tup _ :: _, _, _, _, h, _ => by cases h
  | .lst _ :: _, _, _, _, h, _ => by cases h
  | .dct _ _ :: _, _, _, _, h, _ => by cases h
  | .exc _ _ :: _, _, _, _, h, _ => by cases h
  | .ob _ :: _, _, _, _, h, _ => by cases h
  | .st :: _, _, _, _, h, _ => by cases h
  | .cls _ :: _, _, _, _, h, _ => by cases h
  | .kl _ :: _, _, _, _, h, _ => by cases h

/-- isinstance, the classes written or in a tuple just made -/
def rIsiA (K : PySem.W.Frag) : List V → Hp → VK → Prop := fun xs H Q => rIsi K xs H Q ∨ ∃ (x : V) (tp : Addr) (cs : List V) (t : Value) (us : List Value) (b : Bool), xs = [x, .ref tp] ∧ SqT K H tp cs ∧ Paired ClsV cs us ∧ TyX K H x t ∧ PySem.W.kitAny K t us = some b ∧ Q (.bl b) H
theorem call_isiA : CallR X (.builtin "isinstance") (rIsiA X.K) := by
  intro pins s σ H xs us Q I r h
  rcases h with h | h
  · exact call_isi pins s σ H xs us Q I r h
  · obtain ⟨x, tp, cs, t, ws, b, rfl, hT, k, ty, e, q⟩ := h
    obtain ⟨u1, u2, rfl, r1, r2⟩ := vals2 r
    cases (show u2 = Value.ref tp from r2)
    obtain ⟨P, Z, p, hx⟩ := kit_of I r1 ty
    obtain ⟨its, rv, ⟨o, h1, h2, n, h3⟩, _⟩ := I.tuple hT
    have e3 := ClsV.all k rv
    subst e3
    obtain ⟨oc, od, dt, sl⟩ := o
    simp only at h2 h3
    subst h2 h3
    exact PySem.W.kia_tup Z I.kIn p h1 e hx fun tk => ⟨.bl b, H, I.tok tk, rfl, q⟩
theorem fun_isi (hK : X.K = G.K) : FunD G isiF (rIsiA X.K) := by
  intro B F env S σ H vs ds ev Q z r h p
  unfold isiF at h
  split at h
  · rename_i d T
    obtain ⟨v, w, rfl, r1, r2⟩ := r.two
    cases q : tyD d with
    | none => rw [q] at h; cases h
    | some t =>
      rw [q] at h; cases h
      have r2 := r2.rep z.exF
      have r2 : w = V.ty T.nm := r2
      subst r2
      exact .inl ⟨v, _, _, _, _, rfl, .ty _, hK ▸ tyX_of r1 z.exF q, kit_is _ _ _, p.here z rfl⟩
  · rename_i d ts
    obtain ⟨v, w, rfl, r1, r2⟩ := r.two
    cases q : tyD d with
    | none => rw [q] at h; cases h
    | some t =>
      rw [q] at h
      simp only at h
      cases q2 : anyTy t ts with
      | none => rw [q2] at h; cases h
      | some b =>
        rw [q2] at h; cases h
        obtain ⟨a, cs, rfl, h1, h2⟩ := r2.tup
        obtain ⟨us, k1, k2⟩ := anyTy_ok (K := X.K) q2 h2
        exact .inr ⟨v, a, cs, _, us, b, rfl, hK ▸ (h1.mono z.exF).sq, k1, hK ▸ tyX_of r1 z.exF q, k2, p.here z rfl⟩
  · cases h

/-! ### len, tuple, list -/
def lenF : List D → Option EV
  | [.lst ds] => some (.val (.int ds.length))
  | [.tup ds] => some (.val (.int ds.length))
  | [.str s] => if s.length ≤ 16777216 then some (.val (.int s.length)) else none
  | [.dct ks _] => some (.val (.int ks.length))
  | [.kl ns] => some (.val (.int ns.length))
  | _ => none
theorem rd_len {xs : List V} {pins : List (Addr × Obj)} {s : Shared} {a : Addr} (I : Inv X pins σ H s) (h : SqL X.K H a xs) : xs.length ≤ sizeLine := (I.list h).choose_spec.2.2
theorem rep_kl {ns : List Int} {v : V} (h : RepL G F H (.kl ns) v) : ∃ a, v = .ref a ∧ SqL G.K F a (ns.map V.int) := by
  rcases h with h | ⟨a, h1, h⟩
  · exact h
  · exact h.elim
theorem fun_len (hK : X.K = G.K) : FunD G lenF (fun xs H Q => ((∃ x n, xs = [x] ∧ LenV X.K x H n ∧ Q (.int n) H) ∨ ∃ (a : Addr) (kvs : List (Key × V)), xs = [.ref a] ∧ H a = some (.dK kvs) ∧ Q (.int kvs.length) H)) := by
  intro B F env S σ H vs ds ev Q z r h p
  unfold lenF at h
  split at h
  · rename_i ds
    cases h
    obtain ⟨v, rfl, r1⟩ := r.one
    obtain ⟨a, ws, rfl, h1, h2⟩ := r1.lst z.exF
    refine .inl ⟨_, _, rfl, .inl ⟨ws, .inl h1, rfl⟩, ?_⟩
    rw [← h2.length]; exact p.here z rfl
  · rename_i ds
    cases h
    obtain ⟨v, rfl, r1⟩ := r.one
    obtain ⟨a, ws, rfl, h1, h2⟩ := r1.tup
    refine .inl ⟨_, _, rfl, .inr ⟨ws, hK ▸ (h1.mono z.exF).sq, rfl⟩, ?_⟩
    rw [← h2.length]; exact p.here z rfl
  · rename_i x
    split at h
    · rename_i hl
      cases h
      obtain ⟨v, rfl, r1⟩ := r.one
      have r1 := r1.rep z.exF
      have r1 : v = _ := r1
      subst r1
      exact .inl ⟨_, _, rfl, ⟨by rw [sizeLine_eq]; exact hl, rfl⟩, p.here z rfl⟩
    · cases h
  · rename_i ks es
    cases h
    obtain ⟨v, rfl, r1⟩ := r.one
    obtain ⟨a, ws, rfl, ⟨kvs, h1, h2, h3⟩, h4⟩ := r1.dct z.exF
    refine .inr ⟨a, kvs, rfl, h1, ?_⟩
    have e : kvs.length = ks.length := by rw [h2, List.length_map]
    rw [e]; exact p.here z rfl
  · rename_i ns
    cases h
    obtain ⟨v, rfl, r1⟩ := r.one
    obtain ⟨a, rfl, h1⟩ := rep_kl r1
    refine .inl ⟨_, _, rfl, .inl ⟨_, hK ▸ sqL_mono z.exF h1, rfl⟩, ?_⟩
    rw [List.length_map]; exact p.here z rfl
  · cases h
theorem call_lenA : CallR X (.builtin "len") (fun xs H Q => ((∃ x n, xs = [x] ∧ LenV X.K x H n ∧ Q (.int n) H) ∨ ∃ (a : Addr) (kvs : List (Key × V)), xs = [.ref a] ∧ H a = some (.dK kvs) ∧ Q (.int kvs.length) H)) := call_len.or call_lenD
def tupF : List D → Option EV
  | [.lst ds] => some (.val (.tup ds))
  | [.tup ds] => some (.val (.tup ds))
  | _ => none
def rTupF (K : PySem.W.Frag) : List V → Hp → VK → Prop := fun xs H Q => ∃ p ys, xs = [.ref p] ∧ ((SqL K H p ys ∧ ∀ l o, H l = none → o.dict = none → Q (.ref l) (upd H l (.frz o (.tup ys)))) ∨ (SqT K H p ys ∧ Q (.ref p) H))
theorem call_tupF : CallR X (.type "tuple") (rTupF X.K) := by
  intro pins s σ H xs us Q I r h
  obtain ⟨p, ys, rfl, h⟩ := h
  obtain ⟨u, rfl, rx⟩ := vals1 r
  cases rx
  rcases h with ⟨hq, q⟩ | ⟨hq, q⟩
  · obtain ⟨its, r', pl, hz⟩ := I.list hq
    have hlen := r'.length
    refine call_tuple_list pl.isList (fun h' kp => ?_) (by simp only [List.size_toArray] <;> omega)
    have I1 : L2.Inv X pins σ H { s with heap := h' } := I.kept (t' := s.toks) kp
    exact ⟨.ref h'.objs.size, _, L2.Inv.laidT (t' := s.toks) I1 ⟨rfl, _, rfl⟩ r' hz, rfl, q _ _ (I1.hok.fresh (Nat.le_refl _)) rfl⟩
  · obtain ⟨its, r', pl, hz⟩ := I.tuple hq
    exact call_tuple_same pl ⟨.ref p, H, I, rfl, q⟩
theorem fun_tup (hK : X.K = G.K) : FunD G tupF (rTupF X.K) := by
  intro B F env S σ H vs ds ev Q z r h p
  unfold tupF at h
  split at h
  · cases h
    obtain ⟨v, rfl, r1⟩ := r.one
    obtain ⟨a, ws, rfl, h1, h2⟩ := r1.lst z.exF
    exact ⟨a, ws, rfl, .inl ⟨.inl h1, fun l o hl ho => p.tupN z hl ho h2⟩⟩
  · cases h
    obtain ⟨v, rfl, r1⟩ := r.one
    obtain ⟨a, ws, rfl, h1, h2⟩ := r1.tup
    exact ⟨a, ws, rfl, .inr ⟨hK ▸ (h1.mono z.exF).sq, p.here z ⟨a, ws, rfl, h1, h2⟩⟩⟩
  · cases h
def lstF : List D → Option EV
  | [.lst ds] => some (.fresh (.lst ds))
  | [.tup ds] => some (.fresh (.lst ds))
  | [.dct ks _] => some (.fresh (.lst ks))
  | _ => none
def rLstF (K : PySem.W.Frag) : List V → Hp → VK → Prop := fun xs H Q => (∃ p ys, xs = [.ref p] ∧ (SqL K H p ys ∨ SqT K H p ys) ∧ ∀ l, H l = none → Q (.ref l) (upd H l (.lst ys))) ∨ ∃ (a : Addr) (kvs : List (Key × V)), xs = [.ref a] ∧ Rd H a (.dK kvs) ∧ ∀ p, H p = none → Q (.ref p) (upd H p (.lst (kvs.map fun kv => kV kv.1)))
theorem call_lstF (hc : X.calm = true) : CallR X (.type "list") (rLstF X.K) := call_list_of.or (call_listD hc)
theorem keyD_rep (k : Key) : Rep G F (keyD k) (kV k) := by cases k <;> rfl
theorem keys_reps : ∀ kvs : List (Key × V), Reps G F (kvs.map fun p => keyD p.1) (kvs.map fun kv => kV kv.1)
  | [] => rfl
  | kv :: r => ⟨_, _, rfl, keyD_rep _, keys_reps r⟩
theorem fun_lst (hK : X.K = G.K) : FunD G lstF (rLstF X.K) := by
  intro B F env S σ H vs ds ev Q z r h p
  unfold lstF at h
  split at h
  · cases h
    obtain ⟨v, rfl, r1⟩ := r.one
    obtain ⟨a, ws, rfl, h1, h2⟩ := r1.lst z.exF
    exact .inl ⟨a, ws, rfl, .inl (.inl h1), fun l hl => p.lst z hl h2⟩
  · cases h
    obtain ⟨v, rfl, r1⟩ := r.one
    obtain ⟨a, ws, rfl, h1, h2⟩ := r1.tup
    exact .inl ⟨a, ws, rfl, .inr (hK ▸ (h1.mono z.exF).sq), fun l hl => p.lst z hl h2⟩
  · cases h
    obtain ⟨v, rfl, r1⟩ := r.one
    obtain ⟨a, ws, rfl, ⟨kvs, h1, h2, h3⟩, h4⟩ := r1.dct z.exF
    exact .inr ⟨a, kvs, rfl, .inl h1, fun l hl => p.lst z hl (h2 ▸ keys_reps kvs)⟩
  · cases h

/-! ### numbers -/
def absF : List D → Option EV
  | [.int i] => some (.val (.int (if i < 0 then -i else i)))
  | _ => none
theorem fun_abs : FunD G absF (fun xs H Q => ∃ i, xs = [.int i] ∧ Q (.int (if i < 0 then -i else i)) H) := by
  intro B F env S σ H vs ds ev Q z r h p
  unfold absF at h
  split at h
  · cases h
    obtain ⟨v, rfl, r1⟩ := r.one
    have r1 := r1.rep z.exF
    have r1 : v = _ := r1
    subst r1
    exact ⟨_, rfl, p.here z rfl⟩
  · cases h
def intF : List D → Option EV
  | [.int i] => some (.val (.int i))
  | [.bl b] => some (.val (.int (if b then 1 else 0)))
  | [.str s] => match PySem.intText? s with
    | some n => if s.length ≤ 640 then some (.val (.int n)) else none
    | none => none
  | _ => none
def rIntF : List V → Hp → VK → Prop := fun xs H Q => ((∃ i, xs = [.int i] ∧ Q (.int i) H) ∨ ∃ k, xs = [.bl k] ∧ Q (.int (if k then 1 else 0)) H) ∨ ∃ a n, xs = [.str a] ∧ PySem.intText? a = some n ∧ a.length ≤ 640 ∧ Q (.int n) H
theorem call_intF' : CallR X (.type "int") rIntF := call_int1.or call_int_str
theorem fun_int : FunD G intF rIntF := by
  intro B F env S σ H vs ds ev Q z r h p
  unfold intF at h
  split at h
  · cases h
    obtain ⟨v, rfl, r1⟩ := r.one
    have r1 := r1.rep z.exF
    have r1 : v = _ := r1
    subst r1
    exact .inl (.inl ⟨_, rfl, p.here z rfl⟩)
  · cases h
    obtain ⟨v, rfl, r1⟩ := r.one
    have r1 := r1.rep z.exF
    have r1 : v = _ := r1
    subst r1
    exact .inl (.inr ⟨_, rfl, p.here z rfl⟩)
  · split at h
    · rename_i n hn
      split at h
      · cases h
        obtain ⟨v, rfl, r1⟩ := r.one
        have r1 := r1.rep z.exF
        have r1 : v = _ := r1
        subst r1
        exact .inr ⟨_, _, rfl, hn, by assumption, p.here z rfl⟩
      · cases h
    · cases h
  · cases h
def strF : List D → Option EV
  | [.int i] => if i.natAbs.log2 < 1920 then some (.val (.str (toString i))) else none
  | [.str s] => some (.val (.str s))
  | _ => none
def rStrF : List V → Hp → VK → Prop := fun xs H Q => (∃ i, xs = [.int i] ∧ i.natAbs.log2 < 1920 ∧ Q (.str (toString i)) H) ∨ ∃ a, xs = [.str a] ∧ Q (.str a) H
theorem call_strF : CallR X (.type "str") rStrF := call_str_int.or SkE.call_str_str
theorem fun_str : FunD G strF rStrF := by
  intro B F env S σ H vs ds ev Q z r h p
  unfold strF at h
  split at h
  · split at h
    · cases h
      obtain ⟨v, rfl, r1⟩ := r.one
      have r1 := r1.rep z.exF
      have r1 : v = _ := r1
      subst r1
      exact .inl ⟨_, rfl, by assumption, p.here z rfl⟩
    · cases h
  · cases h
    obtain ⟨v, rfl, r1⟩ := r.one
    have r1 := r1.rep z.exF
    have r1 : v = _ := r1
    subst r1
    exact .inr ⟨_, rfl, p.here z rfl⟩
  · cases h
def gcdF : List D → Option EV
  | [.int i, .int j] => some (.val (.int ((Nat.gcd i.natAbs j.natAbs : Nat) : Int)))
  | _ => none
theorem fun_gcd : FunD G gcdF rGcd := by
  intro B F env S σ H vs ds ev Q z r h p
  unfold gcdF at h
  split at h
  · cases h
    obtain ⟨v, w, rfl, r1, r2⟩ := r.two
    have r1 := r1.rep z.exF
    have r1 : v = _ := r1
    have r2 := r2.rep z.exF
    have r2 : w = _ := r2
    subst r1 r2
    exact ⟨_, _, rfl, p.here z rfl⟩
  · cases h
def min2F : List D → Option EV
  | [.int i, .int j] => some (.val (.int (if j < i then j else i)))
  | _ => none
def max2F : List D → Option EV
  | [.int i, .int j] => some (.val (.int (if j > i then j else i)))
  | _ => none
theorem fun_min2 : FunD G min2F (fun xs H Q => ∃ i j, xs = [.int i, .int j] ∧ Q (.int (if j < i then j else i)) H) := by
  intro B F env S σ H vs ds ev Q z r h p
  unfold min2F at h
  split at h
  · cases h
    obtain ⟨v, w, rfl, r1, r2⟩ := r.two
    have r1 := r1.rep z.exF
    have r1 : v = _ := r1
    have r2 := r2.rep z.exF
    have r2 : w = _ := r2
    subst r1 r2
    exact ⟨_, _, rfl, p.here z rfl⟩
  · cases h
theorem fun_max2 : FunD G max2F (fun xs H Q => ∃ i j, xs = [.int i, .int j] ∧ Q (.int (if j > i then j else i)) H) := by
  intro B F env S σ H vs ds ev Q z r h p
  unfold max2F at h
  split at h
  · cases h
    obtain ⟨v, w, rfl, r1, r2⟩ := r.two
    have r1 := r1.rep z.exF
    have r1 : v = _ := r1
    have r2 := r2.rep z.exF
    have r2 : w = _ := r2
    subst r1 r2
    exact ⟨_, _, rfl, p.here z rfl⟩
  · cases h

/-! ### all, any, sum -/
def bls : List D → Option (List Bool)
  | [] => some []
  | .bl b :: r => (bls r).map (b :: ·)
  | _ => none
def intsD : List D → Option (List Int)
  | [] => some []
  | .int b :: r => (intsD r).map (b :: ·)
  | _ => none
theorem bls_ok : ∀ {ds : List D} {bs : List Bool} {vs : List V}, bls ds = some bs → Reps G F ds vs → vs = bs.map V.bl
  | [], bs, vs, h, r => by cases h; exact r
  | .bl b :: ds, bs, vs, h, ⟨v, w, e1, r1, r2⟩ => by
    subst e1
    have r1 : v = _ := r1
    subst r1
    unfold bls at h
    cases q : bls ds with
    | none => rw [q] at h; cases h
    | some bs' => rw [q] at h; cases h; rw [bls_ok q r2]; rfl
  | .non :: _, _, _, h, _ | .int _ :: _, _, _, h, _ | .str _ :: _, _, _, h, _ | .tup _ :: _, _, _, h, _ | .lst _ :: _, _, _, h, _ | .dct _ _ :: _, _, _, h, _ | .exc _ _ :: _, _, _, h, _ | .ob _ :: _, _, _, h, _ | .st :: _, _, _, h, _ | .ty _ :: _, _, _, h, _ | .cls _ :: _, _, _, h, _ | .kl _ :: _, _, _, h, _ => by cases h
theorem ints_ok : ∀ {ds : List D} {bs : List Int} {vs : List V}, intsD ds = some bs → Reps G F ds vs → vs = bs.map V.int
  | [], bs, vs, h, r => by cases h; exact r
  | .int b :: ds, bs, vs, h, ⟨v, w, e1, r1, r2⟩ => by
    subst e1
    have r1 : v = _ := r1
    subst r1
    unfold intsD at h
    cases q : intsD ds with
    | none => rw [q] at h; cases h
    | some bs' => rw [q] at h; cases h; rw [ints_ok q r2]; rfl
  | .non :: _, _, _, h, _ | .bl _ :: _, _, _, h, _ | .str _ :: _, _, _, h, _ | .tup _ :: _, _, _, h, _ | .lst _ :: _, _, _, h, _ | .dct _ _ :: _, _, _, h, _ | .exc _ _ :: _, _, _, h, _ | .ob _ :: _, _, _, h, _ | .st :: _, _, _, h, _ | .ty _ :: _, _, _, h, _ | .cls _ :: _, _, _, h, _ | .kl _ :: _, _, _, h, _ => by cases h
def allF : List D → Option EV
  | [.lst ds] => (bls ds).map fun bs => .val (.bl (bs.all id))
  | _ => none
def anyF : List D → Option EV
  | [.lst ds] => (bls ds).map fun bs => .val (.bl (bs.any id))
  | _ => none
theorem fun_all (hK : X.K = G.K) : FunD G allF (rAll X.K) := by
  intro B F env S σ H vs ds ev Q z r h p
  unfold allF at h
  split at h
  · rename_i ds
    cases q : bls ds with
    | none => rw [q] at h; cases h
    | some bs =>
      rw [q] at h; cases h
      obtain ⟨v, rfl, r1⟩ := r.one
      obtain ⟨a, ws, rfl, h1, h2⟩ := r1.lst z.exF
      exact ⟨a, bs, rfl, bls_ok q h2 ▸ .inl h1, p.here z rfl⟩
  · cases h
theorem fun_any (hK : X.K = G.K) : FunD G anyF (rAny X.K) := by
  intro B F env S σ H vs ds ev Q z r h p
  unfold anyF at h
  split at h
  · rename_i ds
    cases q : bls ds with
    | none => rw [q] at h; cases h
    | some bs =>
      rw [q] at h; cases h
      obtain ⟨v, rfl, r1⟩ := r.one
      obtain ⟨a, ws, rfl, h1, h2⟩ := r1.lst z.exF
      exact ⟨a, bs, rfl, bls_ok q h2 ▸ .inl h1, p.here z rfl⟩
  · cases h
def sumF : List D → Option EV
  | [.lst ds] => (intsD ds).map fun bs => .val (.int bs.sum)
  | [.tup ds] => (intsD ds).map fun bs => .val (.int bs.sum)
  | _ => none
/-- sum of a list or a tuple of intsD -/
def rSumA (K : PySem.W.Frag) : List V → Hp → VK → Prop := fun vs H Q => ∃ (a : Addr) (ns : List Int), vs = [V.ref a] ∧ (SqL K H a (ns.map V.int) ∨ SqT K H a (ns.map V.int)) ∧ Q (.int ns.sum) H
theorem sum_rawT {prog : Program} {w : World} {A : Around} {E : Value → Shared → Prop} {s : Shared} {l : Addr} {its : List Value} {ns : List Int} {Q : Value → Shared → Prop} (hh : A.handled = none) (hl : IsTup s.heap l its.toArray) (hi : IntsAre its ns)
    (h : ∀ h' tk t', (∀ b o, s.heap.get? b = some o → h'.get? b = some o) → Q (.int ns.sum t') { s with heap := h', toks := tk }) : wpAny (model prog w) A (call (.builtin "sum") [.ref l]) Q E s := by
  obtain ⟨xs, e⟩ := hi.allInts.items
  have hn : numsOf (intItems xs).toList = ns := by rw [← e]; exact hi.numsOf
  rw [nums_intItems] at hn
  rw [e] at hl
  have hl : s.heap.IsTuple l (intItems xs) := hl
  have hlt : l < s.heap.objs.size := by obtain ⟨_, e, _⟩ := hl; exact Heap.lt_size e
  refine call_sum_walkG (wpAny_pyIter_tuple hl ⟨s.heap.objs.size, _, _, _, _, _, numAt xs, rfl, Walks.tuple (A := A.in1) hh _ l (Nat.ne_of_lt hlt) (intItems xs), ⟨⟨_, Heap.get?_push_size _ rfl, rfl, rfl⟩, hl.push _⟩, fun b hb => ?_, (fun _ _ => intItems_at), fun h' tk t' hk => ?_⟩)
  · show b < (s.heap.push _).objs.size
    rw [Heap.size_push]
    rcases List.mem_cons.mp hb with rfl | hb
    · exact Nat.lt_succ_self _
    · rcases List.mem_cons.mp hb with rfl | hb
      · exact Nat.lt_succ_of_lt hlt
      · cases hb
  · have := h h' tk t' (fun b o e => by
      refine hk b o (fun hm => ?_) (Heap.get?_push_of_some _ e)
      rcases List.mem_cons.mp hm with e1 | hm
      · exact absurd (e1 ▸ Heap.lt_size e) (Nat.lt_irrefl _)
      · cases hm)
    rw [preSum_eq, List.take_of_length_le (by simp [intItems]), hn]; exact this
theorem call_sumA (hc : X.calm = true) : CallR X (.builtin "sum") (rSumA X.K) := by
  intro pins s σ H vs us Q I r h
  obtain ⟨a, ns, rfl, hs, q⟩ := h
  rw [Vals.ref1 r]
  rcases hs with hs | hs
  · obtain ⟨its, rv, hl, _⟩ := I.list hs
    exact sum_raw (I.ok.hd hc) hl.isList rv.ints fun h' tk t' hk => ⟨.int _, H, I.kept hk, ⟨_, rfl⟩, q⟩
  · obtain ⟨its, rv, hl, _⟩ := I.tuple hs
    exact sum_rawT (I.ok.hd hc) hl rv.ints fun h' tk t' hk => ⟨.int _, H, I.kept hk, ⟨_, rfl⟩, q⟩
theorem fun_sum (hK : X.K = G.K) : FunD G sumF (rSumA X.K) := by
  intro B F env S σ H vs ds ev Q z r h p
  unfold sumF at h
  split at h
  · rename_i ds
    cases q : intsD ds with
    | none => rw [q] at h; cases h
    | some bs =>
      rw [q] at h; cases h
      obtain ⟨v, rfl, r1⟩ := r.one
      obtain ⟨a, ws, rfl, h1, h2⟩ := r1.lst z.exF
      exact ⟨a, bs, rfl, .inl (ints_ok q h2 ▸ .inl h1), p.here z rfl⟩
  · rename_i ds
    cases q : intsD ds with
    | none => rw [q] at h; cases h
    | some bs =>
      rw [q] at h; cases h
      obtain ⟨v, rfl, r1⟩ := r.one
      obtain ⟨a, ws, rfl, h1, h2⟩ := r1.tup
      exact ⟨a, bs, rfl, .inr (ints_ok q h2 ▸ hK ▸ (h1.mono z.exF).sq), p.here z rfl⟩
  · cases h
end
end PD

set_option Elab.async false
set_option linter.all false
set_option maxRecDepth 100000
set_option maxHeartbeats 4000000
/-! PD8: sorted. -/
namespace PD
open PySem PySem.Spec PyProof.Rows L2

section
open PySem.W
mutual
theorem toks_inj : ∀ (x y : PyData), alike x y = true → ∀ l m, keyToks x ++ l = keyToks y ++ m → x = y ∧ l = m
  | .none, y, h, l, m, e => by
    cases y with
    | none => exact ⟨rfl, by simpa [keyToks] using e⟩
    | _ => simp [alike] at h
  | .bool a, y, h, l, m, e => by
    cases y with
    | bool b =>
      simp only [keyToks, List.cons_append, List.nil_append, List.cons.injEq, Sum.inl.injEq] at e
      obtain ⟨e1, e2⟩ := e
      refine ⟨?_, e2⟩
      cases a <;> cases b <;> first | rfl | simp at e1
    | _ => simp [alike] at h
  | .int a, y, h, l, m, e => by
    cases y with
    | int b =>
      simp only [keyToks, List.cons_append, List.nil_append, List.cons.injEq, Sum.inl.injEq] at e
      exact ⟨by rw [e.1], e.2⟩
    | _ => simp [alike] at h
  | .str a, y, h, l, m, e => by
    cases y with
    | str b =>
      simp only [keyToks, List.cons_append, List.nil_append, List.cons.injEq, Sum.inr.injEq] at e
      exact ⟨by rw [str_of_cps e.1], e.2⟩
    | _ => simp [alike] at h
  | .list xs, y, h, l, m, e => by
    cases y with
    | list ys =>
      simp only [keyToks] at e
      obtain ⟨e1, e2⟩ := toksAll_inj xs ys (by simpa [alike] using h) l m e
      exact ⟨by rw [e1], e2⟩
    | _ => simp [alike] at h
  | .tuple xs, y, h, l, m, e => by
    cases y with
    | tuple ys =>
      simp only [keyToks] at e
      obtain ⟨e1, e2⟩ := toksAll_inj xs ys (by simpa [alike] using h) l m e
      exact ⟨by rw [e1], e2⟩
    | _ => simp [alike] at h
  | .dict _, y, h, _, _, _ => by cases y <;> simp [alike] at h
theorem toksAll_inj : ∀ (xs ys : List PyData), alikeAll xs ys = true → ∀ l m, keyToksAll xs ++ l = keyToksAll ys ++ m → xs = ys ∧ l = m
  | [], [], _, l, m, e => by
    simp only [keyToksAll, List.cons_append, List.nil_append, List.cons.injEq, true_and] at e
    exact ⟨rfl, e⟩
  | [], y :: ys, _, l, m, e => by
    simp [keyToksAll] at e
  | x :: xs, [], _, l, m, e => by
    simp [keyToksAll] at e
  | x :: xs, y :: ys, h, l, m, e => by
    obtain ⟨h1, h2⟩ := alike_all_cons h
    simp only [keyToksAll, List.cons_append, List.cons.injEq, true_and, List.append_assoc] at e
    obtain ⟨e1, e2⟩ := toks_inj x y h1 _ _ e
    obtain ⟨e3, e4⟩ := toksAll_inj xs ys h2 _ _ e2
    exact ⟨by rw [e1, e3], e4⟩
end
end
mutual
theorem py_inj : ∀ (d e : D) (p : PyData), py d = some p → py e = some p → d = e
  | .non, e, p, h, k => by
    cases h
    cases e with
    | non => rfl
    | tup xs => simp [py] at k
    | lst xs => simp [py] at k
    | _ => first | (cases k; done) | (simp [py] at k)
  | .bl b, e, p, h, k => by
    cases h
    cases e with
    | bl c => simp [py] at k; rw [k]
    | tup xs => simp [py] at k
    | lst xs => simp [py] at k
    | _ => first | (cases k; done) | (simp [py] at k)
  | .int b, e, p, h, k => by
    cases h
    cases e with
    | int c => simp [py] at k; rw [k]
    | tup xs => simp [py] at k
    | lst xs => simp [py] at k
    | _ => first | (cases k; done) | (simp [py] at k)
  | .str b, e, p, h, k => by
    cases h
    cases e with
    | str c => simp [py] at k; rw [k]
    | tup xs => simp [py] at k
    | lst xs => simp [py] at k
    | _ => first | (cases k; done) | (simp [py] at k)
  | .tup xs, e, p, h, k => by
    simp only [py, Option.map_eq_some_iff] at h
    obtain ⟨ps, h1, rfl⟩ := h
    cases e with
    | tup ys =>
      simp only [py, Option.map_eq_some_iff] at k
      obtain ⟨qs, k1, k2⟩ := k
      cases k2
      rw [pys_inj xs ys _ h1 k1]
    | lst ys =>
      simp only [py, Option.map_eq_some_iff] at k
      obtain ⟨qs, k1, k2⟩ := k
      cases k2
    | _ => first | (cases k; done) | (simp [py] at k)
  | .lst xs, e, p, h, k => by
    simp only [py, Option.map_eq_some_iff] at h
    obtain ⟨ps, h1, rfl⟩ := h
    cases e with
    | lst ys =>
      simp only [py, Option.map_eq_some_iff] at k
      obtain ⟨qs, k1, k2⟩ := k
      cases k2
      rw [pys_inj xs ys _ h1 k1]
    | tup ys =>
      simp only [py, Option.map_eq_some_iff] at k
      obtain ⟨qs, k1, k2⟩ := k
      cases k2
    | _ => first | (cases k; done) | (simp [py] at k)
  | .dct _ _, _, _, h, _ => by simp [py] at h
  | .exc _ _, _, _, h, _ => by simp [py] at h
  | .ob _, _, _, h, _ => by simp [py] at h
  | .st, _, _, h, _ => by simp [py] at h
  | .ty _, _, _, h, _ => by simp [py] at h
  | .cls _, _, _, h, _ => by simp [py] at h
  | .kl _, _, _, h, _ => by simp [py] at h
theorem pys_inj : ∀ (ds es : List D) (ps : List PyData), pys ds = some ps → pys es = some ps → ds = es
  | [], [], _, _, _ => rfl
  | [], e :: es, ps, h, k => by
    cases h
    unfold pys at k
    split at k <;> cases k
  | d :: ds, [], ps, h, k => by
    cases k
    unfold pys at h
    split at h <;> cases h
  | d :: ds, e :: es, ps, h, k => by
    unfold pys at h k
    split at h
    · rename_i x xs h1 h2
      cases h
      split at k
      · rename_i y ys k1 k2
        cases k
        rw [py_inj d e _ h1 k1, pys_inj ds es _ h2 k2]
      · cases k
    · cases h
end

def pyd (d : D) : PyData := (py d).getD .none
def leD (a b : D) : Bool := PySem.W.dataLe false pyd a b
def insD (x : D) : List D → List D
  | [] => [x]
  | y :: ys => if leD x y = true then x :: y :: ys else y :: insD x ys
def isortD : List D → List D
  | [] => []
  | x :: xs => insD x (isortD xs)
def allB (p : PyData → Bool) : List PyData → Bool
  | [] => true
  | x :: xs => p x && allB p xs
/-- each alike to each -/
def alikeB (ps : List PyData) : Bool := allB (fun p => allB (fun q => PySem.W.alike p q) ps) ps
def tupB : PyData → Bool
  | .tuple (_ :: _) => true
  | _ => false
def othB : PyData → Bool
  | .none => false
  | .tuple _ => false
  | _ => true
def nonB : PyData → Bool
  | .none => false
  | _ => true
def okSort (ps : List PyData) : Bool := alikeB ps && (allB tupB ps || allB othB ps || (decide (ps.length < 2) && allB nonB ps)) && allB (fun p => decide (p.depth ≤ 60)) ps && decide (ps.length ≤ 100000)
def sortF : List D → Option EV
  | [.lst ds] => match pys ds with
    | some ps => if okSort ps = true then some (.fresh (.lst (isortD ds))) else none
    | none => none
  | _ => none

theorem allB_iff {p : PyData → Bool} : ∀ {ps : List PyData}, allB p ps = true ↔ ∀ x ∈ ps, p x = true
  | [] => by simp [allB]
  | x :: xs => by simp [allB, allB_iff (ps := xs)]
theorem insD_perm (x : D) : ∀ ys, (insD x ys).Perm (x :: ys)
  | [] => .refl _
  | y :: ys => by
    unfold insD
    split
    · exact .refl _
    · exact ((insD_perm x ys).cons y).trans (.swap ..)
theorem isortD_perm : ∀ xs, (isortD xs).Perm xs
  | [] => .refl _
  | x :: xs => (insD_perm x _).trans ((isortD_perm xs).cons x)
theorem leD_total (a b : D) : (leD a b || leD b a) = true := by
  unfold leD
  rw [PySem.W.dataLe_eq]
  show ((!PySem.W.dataLt (pyd b) (pyd a)) || (!PySem.W.dataLt (pyd a) (pyd b))) = true
  cases h : PySem.W.dataLt (pyd b) (pyd a) with
  | false => rfl
  | true =>
    cases k : PySem.W.dataLt (pyd a) (pyd b) with
    | false => rfl
    | true =>
      have := (listOrd itemOrd).trans _ _ _ h k
      have z := (listOrd itemOrd).irrefl (PySem.W.keyToks (pyd b))
      rw [this] at z; cases z
theorem leD_trans (a b c : D) (h : leD a b = true) (k : leD b c = true) : leD a c = true := by
  unfold leD at *
  rw [PySem.W.dataLe_eq] at *
  have h : (!PySem.W.dataLt (pyd b) (pyd a)) = true := h
  have k : (!PySem.W.dataLt (pyd c) (pyd b)) = true := k
  show (!PySem.W.dataLt (pyd c) (pyd a)) = true
  cases q : PySem.W.dataLt (pyd c) (pyd a) with
  | false => rfl
  | true =>
    rcases (listOrd itemOrd).negTrans _ (PySem.W.keyToks (pyd b)) _ q with z | z
    · have z : PySem.W.dataLt (pyd c) (pyd b) = true := z
      rw [z] at k; cases k
    · have z : PySem.W.dataLt (pyd b) (pyd a) = true := z
      rw [z] at h; cases h
theorem insD_pw (x : D) : ∀ ys : List D, ys.Pairwise (fun a b => leD a b = true) → (insD x ys).Pairwise (fun a b => leD a b = true)
  | [], _ => by simp [insD]
  | y :: ys, h => by
    unfold insD
    obtain ⟨h1, h2⟩ := List.pairwise_cons.mp h
    split
    · rename_i hxy
      refine List.pairwise_cons.mpr ⟨fun z hz => ?_, h⟩
      rcases List.mem_cons.mp hz with rfl | hz
      · exact hxy
      · exact leD_trans _ _ _ hxy (h1 z hz)
    · rename_i hxy
      refine List.pairwise_cons.mpr ⟨fun z hz => ?_, insD_pw x ys h2⟩
      rcases List.mem_cons.mp ((insD_perm x ys).mem_iff.mp hz) with rfl | hz
      · have t := leD_total z y
        rw [Bool.or_eq_true] at t
        rcases t with t | t
        · exact absurd t hxy
        · exact t
      · exact h1 z hz
theorem isortD_pw : ∀ xs : List D, (isortD xs).Pairwise (fun a b => leD a b = true)
  | [] => .nil
  | x :: xs => insD_pw x _ (isortD_pw xs)
theorem pys_mem : ∀ {ds : List D} {ps : List PyData} {d : D}, pys ds = some ps → d ∈ ds → ∃ p, py d = some p ∧ p ∈ ps
  | x :: xs, ps, d, h, m => by
    unfold pys at h
    split at h
    · rename_i p qs h1 h2
      cases h
      rcases List.mem_cons.mp m with rfl | m
      · exact ⟨p, h1, List.mem_cons_self⟩
      · obtain ⟨q, k1, k2⟩ := pys_mem h2 m
        exact ⟨q, k1, List.mem_cons_of_mem _ k2⟩
    · cases h
theorem pys_map : ∀ {ds : List D} {ps : List PyData}, pys ds = some ps → ds.map pyd = ps
  | [], ps, h => by cases h; rfl
  | x :: xs, ps, h => by
    unfold pys at h
    split at h
    · rename_i p qs h1 h2
      cases h
      rw [List.map_cons, pys_map h2]
      unfold pyd
      rw [h1]; rfl
    · cases h
theorem sort_eq {ds : List D} {ps : List PyData} (h : pys ds = some ps) (hal : PySem.W.AllAlike ps) : ds.mergeSort leD = isortD ds := by
  refine List.Perm.eq_of_pairwise (le := fun a b => leD a b = true) (fun a b ha hb h1 h2 => ?_) (List.pairwise_mergeSort leD_trans leD_total ds) (isortD_pw ds) ((List.mergeSort_perm ds leD).trans (isortD_perm ds).symm)
  have ha := (List.mergeSort_perm ds leD).mem_iff.mp ha
  have hb := (isortD_perm ds).mem_iff.mp hb
  obtain ⟨p, p1, p2⟩ := pys_mem h ha
  obtain ⟨q, q1, q2⟩ := pys_mem h hb
  unfold leD at h1 h2
  rw [PySem.W.dataLe_eq] at h1 h2
  have h1 : (!PySem.W.dataLt (pyd b) (pyd a)) = true := h1
  have h2 : (!PySem.W.dataLt (pyd a) (pyd b)) = true := h2
  have e1 : pyd a = p := by unfold pyd; rw [p1]; rfl
  have e2 : pyd b = q := by unfold pyd; rw [q1]; rfl
  rw [e1, e2] at h1 h2
  have e := (listOrd itemOrd).total (PySem.W.keyToks p) (PySem.W.keyToks q) (show PySem.W.dataLt p q = false by simpa using h2) (show PySem.W.dataLt q p = false by simpa using h1)
  have e : PySem.W.keyToks p = PySem.W.keyToks q := e
  obtain ⟨e, _⟩ := toks_inj p q (hal p p2 q q2) [] [] (by rw [List.append_nil, List.append_nil]; exact e)
  subst e
  exact py_inj a b p p1 q1

section
open PySem.W PySem.Calls
variable {prog : Program} {w : World} {A : Around} {s : Shared}
/-- one value alone can be sorted -/
theorem sortsAt_one {vs : List Value} {ds : List PyData} (e : EachIs (fun v d => ∃ as, Reads s.heap v d as) vs ds) (hal : AllAlike ds) (hn : ∀ d ∈ ds, d ≠ .none) (h2 : vs.length < 2) (hu : ∀ d, d ∈ ds → A.units + d.depth < cLine) : SortsAt prog w A s (dataKind s.heap ds) vs := by
  refine ⟨fun v hv => ?_, general', ?_, fun h => absurd h (by omega)⟩
  · obtain ⟨d, hd, as, r⟩ := e.left v hv
    exact ⟨_, dataKind_some hal hd r⟩
  · intro E x y a b Q ha hb hq
    obtain ⟨d, as, hd, ra, rfl⟩ := dataKind_inv ha
    obtain ⟨d', as', hd', rb, rfl⟩ := dataKind_inv hb
    show wpAny _ _ (oneLt' false x y) _ _ _
    exact oneLt_alike (f := false) (fun z => by cases z) ra rb (hal d hd d' hd') (hn d hd) (Nat.lt_of_le_of_lt (Nat.add_le_add_left (Nat.min_le_left _ _) _) (hu d hd)) hq
theorem sortsAt_any {vs : List Value} {ps : List PyData} (e : EachIs (fun v d => ∃ as, Reads s.heap v d as) vs ps) (h : okSort ps = true) (hu : ∀ d, d ∈ ps → A.units + d.depth < cLine) : SortsAt prog w A s (dataKind s.heap ps) vs ∧ AllAlike ps := by
  unfold okSort at h
  simp only [Bool.and_eq_true, Bool.or_eq_true, decide_eq_true_eq] at h
  obtain ⟨⟨⟨h1, h2⟩, h3⟩, h4⟩ := h
  have hal : AllAlike ps := fun d hd d' hd' => allB_iff.mp (allB_iff.mp h1 d hd) d' hd'
  refine ⟨?_, hal⟩
  rcases h2 with (h2 | h2) | ⟨h5, h6⟩
  · refine SortsAt.data e hal (.inl fun d hd => ?_) hu
    have q := allB_iff.mp h2 d hd
    unfold tupB at q
    split at q
    · exact ⟨_, _, rfl⟩
    · cases q
  · refine SortsAt.data e hal (.inr fun d hd => ?_) hu
    have q := allB_iff.mp h2 d hd
    unfold othB at q
    split at q
    · cases q
    · cases q
    · rename_i k1 k2
      exact ⟨fun e => k1 e, fun xs e => k2 xs e⟩
  · refine sortsAt_one e hal (fun d hd => ?_) (by rw [e.length]; exact h5) hu
    have q := allB_iff.mp h6 d hd
    unfold nonB at q
    split at q
    · cases q
    · rename_i k1
      exact fun e => k1 e
end

section
variable {X : Cx} {G : Gc} {B : Bs} {F : Hp} {env : List Sl} {S : DS} {σ : L2.St} {H : Hp} {Q : VK}
/-- sorted: of a list that reads as ps; what comes is the values in the order of the data -/
def rSortD (G : Gc) : List V → Hp → VK → Prop := fun vs H Q => ∃ (a : Addr) (F : Hp) (ds : List D) (ws : List V) (ps : List PyData), vs = [V.ref a] ∧ SqL G.K H a ws ∧ Same F H ∧ Reps G F ds ws ∧ pys ds = some ps ∧ okSort ps = true ∧
  ∀ p ws', H p = none → Reps G F (isortD ds) ws' → Q (.ref p) (upd H p (.lst ws'))
theorem each_of {R : Value → D → Prop} : ∀ {us : List Value} {vs : List V} {ds : List D} {F : Hp}, (∀ u v d, RelV v u → Rep G F d v → d ∈ ds → R u d) → Vals vs us → Reps G F ds vs → PySem.W.EachIs R us ds
  | us, vs, [], F, k, hv, r => by
    have r : vs = [] := r
    subst r; cases hv; exact .nil
  | us, vs, d :: ds, F, k, hv, ⟨v, w, e, r1, r2⟩ => by
    subst e
    cases hv with
    | cons h1 h2 => exact .cons (k _ _ _ h1 r1 List.mem_cons_self) (each_of (fun u v d h1 h2 h3 => k u v d h1 h2 (List.mem_cons_of_mem _ h3)) h2 r2)
theorem of_each {F : Hp} : ∀ {us : List Value} {ds : List D}, PySem.W.EachIs (fun u d => ∃ v, RelV v u ∧ Rep G F d v) us ds → ∃ vs, Vals vs us ∧ Reps G F ds vs
  | _, _, .nil => ⟨[], .nil, rfl⟩
  | _, _, .cons ⟨v, h1, h2⟩ t => by
    obtain ⟨vs, k1, k2⟩ := of_each t
    exact ⟨v :: vs, .cons h1 k1, v, vs, rfl, h2, k2⟩
theorem call_sortD (hK : X.K = G.K) (hu : X.A.units + 64 < cLine) : CallR X (.builtin "sorted") (rSortD G) := by
  intro pins s σ H vs us Q I r h
  obtain ⟨a, F, ds, ws, ps, rfl, hs, sF, hr, hp, hok, q⟩ := h
  obtain ⟨its, rv, hl, hz⟩ := I.list (hK ▸ hs)
  rw [Vals.ref1 r]
  have hlen : ds.length = ps.length := by rw [← pys_map hp, List.length_map]
  have hdep : ∀ p ∈ ps, p.depth ≤ 60 := by
    have h := hok
    unfold okSort at h
    simp only [Bool.and_eq_true] at h
    exact fun p hp' => by simpa using allB_iff.mp h.1.2 p hp'
  have h10 : ps.length ≤ 100000 := by
    have h := hok
    unfold okSort at h
    simp only [Bool.and_eq_true] at h
    simpa using h.2
  have rd : ∀ u v d, RelV v u → Rep G F d v → d ∈ ds → ∃ as, Reads s.heap u (pyd d) as := fun u v d h1 h2 h3 => by
    obtain ⟨p, e1, _⟩ := pys_mem hp h3
    have dp := (h2.mono sF).dp e1
    have e : pyd d = p := by unfold pyd; rw [e1]; rfl
    rw [e]
    exact Dp.reads I p v u (hK ▸ dp) h1
  have er : PySem.W.EachIs (fun u d => ∃ as, Reads s.heap u (pyd d) as) its ds := each_of rd rv hr
  have eR : PySem.W.EachIs (fun u d => ∃ v, RelV v u ∧ Rep G F d v) its ds := each_of (fun u v d h1 h2 _ => ⟨v, h1, h2⟩) rv hr
  have er' : PySem.W.EachIs (fun v b => ∃ as, Reads (PySem.W.sortingHeap (PySem.W.copyHeap s.heap its) (s.heap.objs.size + 1) its) v (pyd b) as) its ds := er.mono fun _ _ ⟨as, r⟩ => ⟨as, PyProof.Rows.Reads.keeps (fun _ _ => PySem.W.sorting_copy_old) r⟩
  have em := PySem.W.each_map (R := fun v d => ∃ as, Reads (PySem.W.sortingHeap (PySem.W.copyHeap s.heap its) (s.heap.objs.size + 1) its) v d as) pyd er'
  obtain ⟨SA, hal⟩ := sortsAt_any (prog := X.prog) (w := X.w) (A := X.A.in1.in1) (s := { s with heap := PySem.W.sortingHeap (PySem.W.copyHeap s.heap its) (s.heap.objs.size + 1) its }) (vs := its) (ps := ds.map pyd) em (by rw [pys_map hp]; exact hok) (fun d hd => by
    rw [pys_map hp] at hd
    have := hdep d hd
    show X.A.units + 1 + 1 + d.depth < cLine
    omega)
  refine PySem.W.sorted_vals hl.isList SA (by rw [← rv.length]; exact hz) ?_
  have out := PySem.W.sortVals_data (R := fun u d => ∃ v, RelV v u ∧ Rep G F d v) (enc := pyd) false eR er' hal
  have out' : PySem.W.EachIs (fun u d => ∃ v, RelV v u ∧ Rep G F d v) (PySem.W.sortVals (PySem.W.dataKind (PySem.W.sortingHeap (PySem.W.copyHeap s.heap its) (s.heap.objs.size + 1) its) (ds.map pyd)) false its its) (isortD ds) := by
    rw [← sort_eq hp (by rw [← pys_map hp]; exact hal)]; exact out
  obtain ⟨ws', k1, k2⟩ := of_each out'
  obtain ⟨ep, he'⟩ := PyProof.Rows.sortedAll_at s.heap its (PySem.W.sortVals (PySem.W.dataKind (PySem.W.sortingHeap (PySem.W.copyHeap s.heap its) (s.heap.objs.size + 1) its) (ds.map pyd)) false its its).toArray
  have hl2 := k2.length
  have hl3 := (isortD_perm ds).length_eq
  exact ⟨.ref _, upd H (s.heap.objs.size + 1) (.lst ws'), I.laid (t' := s.toks) (fun _ _ => PyProof.Rows.sortedAll_old) (Nat.le_succ _) ⟨by rw [← hl2, hl3, hlen, sizeLine_eq]; omega, _, ep, by simpa using k1, he'⟩, rfl, q _ ws' (I.hok.fresh (Nat.le_succ _)) k2⟩
theorem fun_sort : FunD G sortF (rSortD G) := by
  intro B F env S σ H vs ds ev Q z r h p
  unfold sortF at h
  split at h
  · rename_i ds
    split at h
    · rename_i ps hp
      split at h
      · rename_i hok
        cases h
        obtain ⟨v, rfl, r1⟩ := r.one
        obtain ⟨a, ws, rfl, h1, h2⟩ := r1.lst z.exF
        exact ⟨a, F, ds, ws, ps, rfl, .inl h1, z.exF, h2, hp, hok, fun l ws' hl r => p.lst z hl r⟩
      · cases h
    · cases h
  · cases h
end
end PD

set_option Elab.async false
set_option linter.all false
set_option maxRecDepth 100000
set_option maxHeartbeats 4000000
/-! PD9: methods of lists and tuples, += . -/
namespace PD
open PySem PySem.Spec PyProof.Rows L2

/-! ### a list of one's own changes -/
def eMut (i : Nat) (f : List D → List D → Option (D × List D)) (m : M (List EV)) : EM := fun e0 S0 => match e0[i]? with
  | some (.own (.lst _)) => (m.then fun xs => fun e S => match takes e xs with
    | some (ds, e') => match e'[i]? with
      | some (.own (.lst xs)) => match f xs ds with
        | some (d, xs') => .ok (.val d) (e'.set i (.own (.lst xs'))) S
        | none => .bad
      | _ => .bad
    | none => .bad) e0 S0
  | _ => .bad
def MutD (G : Gc) (f : List D → List D → Option (D × List D)) (r : V → List V → Hp → VK → Prop) : Prop :=
  ∀ (H F : Hp) (a : Addr) (xs : List D) (ws : List V) (ds : List D) (us : List V) (d : D) (xs' : List D) (Q : VK), Same F H → H a = some (.lst ws) → Reps G F xs ws → Reps G F ds us → f xs ds = some (d, xs') →
    (∀ ws' v, Reps G F xs' ws' → Rep G F d v → Q v (upd H a (.lst ws'))) → r (.ref a) us H Q
section
variable {X : Cx} {G : Gc} {W : WX} {e : Expr} {es : List Expr} {mr : M (List EV)} {name x : Str} {p apos cpos : Pos} {id : String} {r : V → List V → Hp → VK → Prop} {f : List D → List D → Option (D × List D)} {i : Nat}
theorem mut_of (hf : MutD G f r) {σ : L2.St} {H : Hp} {Q : VK} (h : ET G W (eMut i f mr) σ H Q) : tBM X.K "list" r (tVar i) (AT G W mr) σ H Q := by
  obtain ⟨B, F, env, S, z, p⟩ := h
  unfold eMut at p
  cases q : env[i]? with
  | none => simp only [q] at p; exact p.elim
  | some sl =>
    cases sl with
    | un => simp only [q] at p; exact p.elim
    | frz d => simp only [q] at p; exact p.elim
    | own d =>
      cases d with
      | lst xs =>
        simp only [q] at p
        obtain ⟨a, q1, q2, q3, q4, ws, q5, q6⟩ := z.slot i _ q
        have q1' : σ[i]? = some (some (.ref a)) := by
          cases k : σ[i]? with
          | none => rw [k] at q1; cases q1
          | some o => rw [k] at q1; exact congrArg some q1
        refine ⟨.ref a, q1', .inl ⟨rfl, ws, .inl (.inl q5)⟩, B, F, env, S, z, (PstA.bind (r := mr env S) p).imp ?_⟩
        rintro vs H1 ⟨F1, env1, S1, ys, s1, z1, q7, p1⟩
        cases e : takes env1 ys with
        | none => simp only [e] at p1; exact p1.elim
        | some q =>
          obtain ⟨ds, env2⟩ := q
          simp only [e] at p1
          obtain ⟨F2, s2, z2, r2⟩ := takes_ok z1 q7 e
          split at p1
          · rename_i xs2 hx
            obtain ⟨a2, k1, k2, k3, k4, ws2, k5, k6⟩ := z2.slot i _ hx
            rw [q1] at k1; cases k1
            cases e3 : f xs2 ds with
            | none => simp only [e3] at p1; exact p1.elim
            | some w =>
              obtain ⟨d, xs'⟩ := w
              simp only [e3] at p1
              refine hf H1 F2 a xs2 ws2 ds vs d xs' Q z2.exF k5 k6 r2 e3 fun ws' v r3 r4 => ?_
              have z3 := z2.mut (o := .lst ws') (d' := .lst xs') hx q1 ⟨ws', upd_same, r3⟩
              exact p1 F2 v _ s2 z3 r4
          · exact p1.elim
      | _ => simp only [q] at p; exact p.elim
theorem pd_mut (slot : Slot "list" name id) (hty : typeOf (.builtin id) = pure (.type "method_descriptor")) (hm : MtR X id r) (hf : MutD G f r) (ho : PE X (.Name x p) (tVar i)) (ha : PA X (e :: es) (AT G W mr))
    (hbase : attributeBase (.Name x p) name X.env (eval (.Name x p) X.env) = eval (.Name x p) X.env := by rfl)
    (hfew : ((backTo cpos (starEach (e :: es) X.env)).all (fun x => !x.1) && (backToKw cpos (keywordEach [] X.env)).all (fun x => x.1.isSome)
      && decide ((e :: es).length + ([] : List Keyword).length + (if ([] : List Keyword).isEmpty then 0 else 1) < 30)) = true := by rfl)
    (hline : (apos.endLine == cpos.line) = true := by rfl) (hs : starEach (e :: es) X.env = (false, eval e X.env) :: starEach es X.env := by rfl) (hplain : (backTo cpos (starEach es X.env)).any (·.1) = false := by rfl) :
    PE X (.Call (.Attribute (.Name x p) name apos) (e :: es) [] cpos) (ET G W (eMut i f mr)) :=
  (pe_bm PySem.F.plainAttrs_list slot hty hm ho ha hbase hfew hline hs hplain).imp fun _ _ _ h => mut_of hf h
theorem pd_mut0 (slot : Slot "list" name id) (hty : typeOf (.builtin id) = pure (.type "method_descriptor")) (hm : MtR X id r) (hf : MutD G f r) (ho : PE X (.Name x p) (tVar i))
    (hbase : attributeBase (.Name x p) name X.env (eval (.Name x p) X.env) = eval (.Name x p) X.env := by rfl) (hline : (apos.endLine == cpos.line) = true := by rfl) :
    PE X (.Call (.Attribute (.Name x p) name apos) [] [] cpos) (ET G W (eMut i f aNil)) :=
  (pe_bm0 PySem.F.plainAttrs_list slot hty hm ho hbase hline).imp fun σ H Q h => by
    have k := mut_of (X := X) hf h
    obtain ⟨x, e1, ty, B, F, env, S, z, p⟩ := k
    exact ⟨x, e1, ty, p F [] H (Same.refl F) z trivial⟩
end
def appF : List D → List D → Option (D × List D)
  | xs, [d] => if xs.length < 100000 then some (.non, xs ++ [d]) else none
  | _, _ => none
def extF : List D → List D → Option (D × List D)
  | xs, [.lst ys] => if xs.length + ys.length ≤ 100000 then some (.non, xs ++ ys) else none
  | _, _ => none
def popF : List D → List D → Option (D × List D)
  | xs, [] => match xs[xs.length - 1]? with
    | some d => some (d, xs.dropLast)
    | none => none
  | xs, [.int i] => if (decide (-(2 ^ 63) ≤ i) && decide (i < 2 ^ 63)) = true then match seqIndex? i xs.length with
      | some k => match xs[k]? with
        | some d => some (d, xs.eraseIdx k)
        | none => none
      | none => none
    else none
  | _, _ => none
section
variable {X : Cx} {G : Gc} {pins : List (Addr × Obj)} {σ : L2.St} {H : Hp} {s : Shared}
theorem L2lstR {a : Addr} {xs : List V} (I : L2.Inv X pins σ H s) (h : Rd H a (.lst xs)) : xs.length ≤ sizeLine ∧ ∃ (its : List Value) (n : Nat), Vals xs its ∧ xs.length = its.length ∧ s.heap.get? a = some { cls := .type "list", data := .seq its.toArray n } := by
  obtain ⟨z, its, n, r, e⟩ := h.ok I.hok
  exact ⟨z, its, n, r, r.length, e⟩
def rExtR : V → List V → Hp → VK → Prop := fun x vs H Q => ∃ l b xs zs, x = .ref l ∧ vs = [.ref b] ∧ H l = some (.lst xs) ∧ Rd H b (.lst zs) ∧ xs.length + zs.length ≤ sizeLine ∧ Q .non (upd H l (.lst (xs ++ zs)))
theorem mt_extR : MtM X "list.extend" rExtR := by
  intro pins s σ H x vs v us Q I rx rv h
  obtain ⟨l, b, xs, zs, rfl, rfl, hH, hB, hz, q⟩ := h
  cases rx
  obtain ⟨u, rfl, ru⟩ := rv.one
  cases ru
  obtain ⟨z, its, n, r, hl, e⟩ := I.lstM hH
  obtain ⟨z2, its2, n2, r2, hl2, e2⟩ := L2lstR I hB
  have hsz : its.toArray.size + its2.toArray.size ≤ sizeLine := by rw [List.size_toArray, List.size_toArray]; omega
  have hlong : ¬ (!its.toArray.isEmpty && Builtin.List.listTooLong (its.toArray.size + its2.toArray.size)) = true := by
    rw [notLongL hsz, Bool.and_false]
    exact Bool.false_ne_true
  refine call_meets PySem.F.slot_list_extend ⟨_, e, rfl⟩ PySem.F.entry_list_extend (PySem.F.args_list_extend_2 _ _)
    (AutoSeq1.list_extend_list_list_0 l its.toArray n b its2.toArray n2 hlong (by rw [List.size_toArray]; omega) (by omega)) ⟨e, e2, ?_⟩
  refine ⟨.non, _, I.lset (its' := its ++ its2) hH e (by simp) (r.append r2) ?_, rfl, q⟩
  rw [List.length_append]
  omega
def ipExtR : TIp := fun x y H Q => ∃ l b xs zs, x = .ref l ∧ y = .ref b ∧ H l = some (.lst xs) ∧ Rd H b (.lst zs) ∧ xs.length + zs.length ≤ sizeLine ∧ Q (.ref l) (upd H l (.lst (xs ++ zs)))
theorem ip_extR : PIp X .Add ipExtR := by
  intro pins s σ H x y v u Q I rx ry h
  obtain ⟨l, b, xs, zs, rfl, rfl, hH, hB, hz, q⟩ := h
  cases rx
  cases ry
  obtain ⟨z, its, n, r, hl, e⟩ := I.lstM hH
  obtain ⟨z2, its2, n2, r2, hl2, e2⟩ := L2lstR I hB
  have hsz : its.toArray.size + its2.toArray.size ≤ sizeLine := by rw [List.size_toArray, List.size_toArray]; omega
  have hlong : ¬ (!its.toArray.isEmpty && Builtin.List.listTooLong (its.toArray.size + its2.toArray.size)) = true := by
    rw [notLongL hsz, Bool.and_false]
    exact Bool.false_ne_true
  refine iadd_road ⟨_, e, rfl⟩ ⟨_, e2, rfl⟩ (call_meets PySem.F.slot_list_iadd ⟨_, e, rfl⟩ PySem.F.entry_list_iadd (PySem.F.args_list_iadd_2 _ _)
    (AutoSeq1.list___iadd___list_list_0 l its.toArray n b its2.toArray n2 hlong (by rw [List.size_toArray]; omega) (by omega)) ⟨e, e2, ?_⟩)
  refine ⟨.ref l, _, I.lset (its' := its ++ its2) (t' := s.toks) hH e (by simp) (r.append r2) ?_, rfl, q⟩
  rw [List.length_append]
  omega
theorem mut_app : MutD G appF rAppend := by
  intro H F a xs ws ds us d xs' Q sF hH hx hd h q
  unfold appF at h
  split at h
  · rename_i d0
    split at h
    · cases h
      obtain ⟨v, r, rfl, r1, r2⟩ := hd
      have r2 : r = [] := r2
      subst r2
      refine ⟨a, ws, v, rfl, rfl, hH, ?_, q _ _ (hx.append (.one r1)) rfl⟩
      rw [← hx.length, sizeLine_eq]; omega
    · cases h
  · cases h
theorem mut_ext : MutD G extF rExtR := by
  intro H F a xs ws ds us d xs' Q sF hH hx hd h q
  unfold extF at h
  split at h
  · rename_i ys
    split at h
    · rename_i hl
      cases h
      obtain ⟨v, r, rfl, ⟨b, zs, rfl, k1, k2⟩, r2⟩ := hd
      have r2 : r = [] := r2
      subst r2
      refine ⟨a, b, ws, zs, rfl, rfl, hH, rd_mono sF k1, ?_, q _ _ (hx.append k2) rfl⟩
      rw [← hx.length, ← k2.length, sizeLine_eq]; omega
    · cases h
  · cases h
theorem mut_pop : MutD G popF (fun x vs H Q => rPop x vs H Q ∨ rPopAt x vs H Q) := by
  intro H F a xs ws ds us d xs' Q sF hH hx hd h q
  have hl := hx.length
  unfold popF at h
  split at h
  · have hd : us = [] := hd
    subst hd
    split at h
    · rename_i d0 hd0
      cases h
      obtain ⟨v, k1, k2⟩ := hx.get hd0
      refine .inl ⟨a, ws, v, rfl, rfl, hH, by rw [← hl]; exact k1, q _ _ ?_ k2⟩
      rw [List.dropLast_eq_take, List.dropLast_eq_take, ← hl]
      exact hx.take _
    · cases h
  · rename_i i
    split at h
    · rename_i hi
      simp only [Bool.and_eq_true, decide_eq_true_eq] at hi
      split at h
      · rename_i k hk
        split at h
        · rename_i d0 hd0
          cases h
          obtain ⟨v, k1, k2⟩ := hx.get hd0
          obtain ⟨w, r, rfl, r1, r2⟩ := hd
          have r2 : r = [] := r2
          subst r2
          have r1 : w = V.int i := r1
          subst r1
          refine .inr ⟨a, ws, i, k, v, rfl, rfl, hH, hi.1, hi.2, by rw [← hl]; exact hk, k1, q _ _ ?_ k2⟩
          rw [List.eraseIdx_eq_take_drop_succ, List.eraseIdx_eq_take_drop_succ]
          exact (hx.take k).append (hx.drop (k + 1))
        · cases h
      · cases h
    · cases h
  · cases h
theorem mt_popA : MtR X "list.pop" (fun x vs H Q => rPop x vs H Q ∨ rPopAt x vs H Q) := MtR.or mt_pop mt_popAt
end
end PD

set_option Elab.async false
set_option linter.all false
set_option maxRecDepth 100000
set_option maxHeartbeats 4000000
/-! PD10: op=, item stores, dicts of pairs, count. -/
namespace PD
open PySem PySem.Spec PyProof.Rows L2

/-! ### name op= e -/
/-- a value's new value -/
def sAug (i : Nat) (f : D → D → Option EV) (m : EM) : SM := fun e0 S0 => match e0[i]? with
  | some (.frz x) => (m.thenS fun a => fun e S => match dat e a with
    | some y => match f x y with
      | some ev => setE i ev e S
      | none => .bad
    | none => .bad) e0 S0
  | _ => .bad
/-- a list of one's own is made longer -/
def sExt (i : Nat) (m : EM) : SM := fun e0 S0 => match e0[i]? with
  | some (.own (.lst _)) => (m.thenS fun a => fun e S => match take e a with
    | some (.lst ys, e') => match e'[i]? with
      | some (.own (.lst xs)) => if xs.length + ys.length ≤ 100000 then .nx (e'.set i (.own (.lst (xs ++ ys)))) S else .bad
      | _ => .bad
    | _ => .bad) e0 S0
  | _ => .bad
section
variable {X : Cx} {G : Gc} {W : WX} {e : Expr} {ma : EM} {i : Nat} {x : Str} {pos pos' : Pos} {op : Operator}
theorem slot_some {σ : L2.St} {v : V} (h : (σ[i]?).join = some v) : σ[i]? = some (some v) := by
  cases k : σ[i]? with
  | none => rw [k] at h; cases h
  | some o => rw [k] at h; exact congrArg some h
theorem pds_aug {f : D → D → Option EV} {r : R2} (hN : X.N.Nodup) (hi : X.N[i]? = some x) (hx : Loc X.env.scope x) (he : PE X e (ET G W ma)) (ho : PIp X op r) (hd : OpD G f r) (hf : X.fn x = true ∨ X.env.scope.names.lookup x = some .local := by first | exact .inl rfl | exact .inr rfl | assumption) :
    PS X (.AugAssign (.Name x pos') op e pos) (ST G W (sAug i f ma)) := (ps_aug hN hi hx he ho hf).imp fun D σ H ⟨B, F, env, S, z, p⟩ => by
  unfold sAug at p
  split at p
  · rename_i dx hsl
    obtain ⟨v, k1, k2⟩ := z.slot i _ hsl
    refine ⟨v, slot_some k1, B, F, env, S, z, (Pst.bindS (r := ma env S) p).imp ?_⟩
    rintro w H1 ⟨F1, env1, S1, ev, s1, z1, q1, p1⟩
    cases e1 : dat env1 ev with
    | none => simp only [e1] at p1; exact p1.elim
    | some dy =>
      simp only [e1] at p1
      cases e2 : f dx dy with
      | none => simp only [e2] at p1; exact p1.elim
      | some ev2 =>
        simp only [e2] at p1
        refine hd B F1 env1 S1 σ H1 v w dx dy ev2 _ z1 (.inl (k2.mono s1)) (dat_rep z1 q1 e1) e2 fun F2 u H2 s2 z2 q2 => ?_
        exact setE_ok z2 q2 (PstS.mono (r := setE i ev2 env1 S1) p1 s2)
  · exact p.elim
theorem pds_ext (hN : X.N.Nodup) (hi : X.N[i]? = some x) (hx : Loc X.env.scope x) (he : PE X e (ET G W ma)) (hf : X.fn x = true ∨ X.env.scope.names.lookup x = some .local := by first | exact .inl rfl | exact .inr rfl | assumption) :
    PS X (.AugAssign (.Name x pos') .Add e pos) (ST G W (sExt i ma)) := (ps_aug hN hi hx he ip_extR hf).imp fun D σ H ⟨B, F, env, S, z, p⟩ => by
  unfold sExt at p
  split at p
  · rename_i xs0 hsl
    obtain ⟨a, k1, _, _, _, ws0, _, _⟩ := z.slot i _ hsl
    refine ⟨.ref a, slot_some k1, B, F, env, S, z, (Pst.bindS (r := ma env S) p).imp ?_⟩
    rintro w H1 ⟨F1, env1, S1, ev, s1, z1, q1, p1⟩
    split at p1
    · rename_i ys env2 e1
      obtain ⟨F2, s2, z2, r2⟩ := take_ok z1 q1 e1
      split at p1
      · rename_i xs h2
        obtain ⟨a2, j1, j2, j3, j4, ws, j5, j6⟩ := z2.slot i _ h2
        rw [k1] at j1; cases j1
        obtain ⟨b, zs, rfl, l1, l2⟩ := r2
        split at p1
        · rename_i hl
          refine ⟨a, b, ws, zs, rfl, rfl, j5, rd_mono z2.exF l1, by rw [← j6.length, ← l2.length, sizeLine_eq]; omega, ?_⟩
          have z3 := z2.mut (o := .lst (ws ++ zs)) (d' := .lst (xs ++ ys)) h2 k1 ⟨ws ++ zs, upd_same, j6.append l2⟩
          have e : σ.set i (some (.ref a)) = σ := by
            apply List.ext_getElem?
            intro j
            by_cases hj : i = j
            · subst hj
              have := slot_some k1
              have hlt := (List.getElem?_eq_some_iff.mp this).1
              rw [List.getElem?_set_self hlt, this]
            · rw [List.getElem?_set_ne hj]
          show D.nx (σ.set i (some (.ref a))) _
          rw [e]
          exact p1 F2 σ _ s2 z3
        · exact p1.elim
      · exact p1.elim
    · exact p1.elim
  · exact p.elim
end
def augI (g : Int → Int → Int) : D → D → Option EV
  | .int i, .int j => some (.val (.int (g i j)))
  | _, _ => none
theorem opd_augI {G : Gc} {g : Int → Int → Int} : OpD G (augI g) (rI0 fun i j => .int (g i j)) := by
  intro B F env S σ H x y dx dy ev Q z hx hy e p
  have h1 := hx.rep z.exF; have h2 := hy.rep z.exF
  unfold augI at e
  split at e
  · cases e
    have h1 : x = _ := h1
    have h2 : y = _ := h2
    subst h1 h2
    exact ⟨_, _, rfl, rfl, p.here z rfl⟩
  · cases e

/-! ### xs[k] = v, d[k] = v -/
def hasK : List D → Key → Bool
  | [], _ => false
  | d :: ds, k => keyEq d k || hasK ds k
def putV : List D → List D → Key → D → List D
  | d :: ds, w :: ws, k, v => (if keyEq d k = true then v else w) :: putV ds ws k v
  | _, ws, _, _ => ws
def putAt (k v : D) : D → Option D
  | .lst xs => match k with
    | .int j => (ixN xs.length j).map fun n => .lst (xs.set n v)
    | _ => none
  | .dct ks vs => match keyOf k with
    | some key => if ks.length < 100000 then (if hasK ks key = true then some (.dct ks (putV ks vs key v)) else some (.dct (ks ++ [k]) (vs ++ [v]))) else none
    | none => none
  | _ => none
/-- name[k] = v: the value, then the place -/
def sPut (i : Nat) (mv mk : EM) : SM := mv.thenS fun a => fun e S => match take e a with
  | some (v, e1) => match e1[i]? with
    | some (.own _) => (mk.thenS fun b => fun e S => match dat e b with
      | some k => match e[i]? with
        | some (.own d) => match putAt k v d with
          | some d' => .nx (e.set i (.own d')) S
          | none => .bad
        | _ => .bad
      | none => .bad) e1 S
    | _ => .bad
  | none => .bad
section
variable {X : Cx} {G : Gc} {W : WX} {e o : Expr} {ma mb : EM} {i : Nat} {x : Str} {pos pos' p0 : Pos} {F : Hp}
theorem hasK_ok (k : Key) : ∀ kvs : List (Key × V), hasK (kvs.map fun p => keyD p.1) k = kvs.any fun kv => decide (kv.1 = k)
  | [] => rfl
  | p :: r => by simp only [List.map_cons, hasK, List.any_cons, hasK_ok k r, keyEq_ok]
theorem putV_ok (k : Key) {d : D} {v : V} (r : Rep G F d v) : ∀ {kvs : List (Key × V)} {ds : List D}, Reps G F ds (kvs.map (·.2)) →
    Reps G F (putV (kvs.map fun p => keyD p.1) ds k d) ((kvs.map fun kv => if kv.1 = k then (kv.1, v) else kv).map (·.2))
  | [], ds, h => by
    cases ds with
    | nil => exact rfl
    | cons d ds => obtain ⟨_, _, e, _⟩ := h; cases e
  | p :: kvs, [], h => by have h : _ = [] := h; cases h
  | p :: kvs, w :: ds, ⟨u, q, h1, h2, h3⟩ => by
    have e1 : p.2 = u ∧ kvs.map (·.2) = q := by simpa using h1
    obtain ⟨rfl, rfl⟩ := e1
    have ih := putV_ok k r (kvs := kvs) h3
    simp only [List.map_cons, putV]
    by_cases e : p.1 = k
    · rw [keyEq_ok, decide_eq_true e, if_pos rfl, if_pos e]
      exact ⟨_, _, rfl, r, ih⟩
    · rw [keyEq_ok, decide_eq_false e, if_neg (by simp), if_neg e]
      exact ⟨_, _, rfl, h2, ih⟩
theorem put_keys (k : Key) (v : V) : ∀ kvs : List (Key × V), (kvs.map fun kv => if kv.1 = k then (kv.1, v) else kv).map (fun p => keyD p.1) = kvs.map fun p => keyD p.1
  | [] => rfl
  | p :: r => by
    simp only [List.map_cons, put_keys k v r]
    split <;> rfl
def rPutA : TSet := fun o i v H Q => rSetL o i v H Q ∨ rSetD o i v H Q
theorem set_any (hu : X.A.units + 1 < cLine) : PSet X rPutA := by
  intro pins s σ H o i v ov iv u Q I ro ri rv h
  rcases h with h | h
  · exact set_list pins s σ H o i v ov iv u Q I ro ri rv h
  · exact set_dict hu pins s σ H o i v ov iv u Q I ro ri rv h
theorem pds_put (hu : X.A.units + 1 < cLine) (hv : PE X e (ET G W ma)) (ho : PE X (.Name x p0) (tVar i)) (hk : PE X o (ET G W mb))
    (ha : ∀ v, assign (.Subscript (.Name x p0) o pos') X.env v = (do
      let ov ← holding [v] (eval (.Name x p0) X.env)
      let iv ← holding [v, ov] (eval o X.env)
      standAt pos'
      holding [v, ov, iv] (setItem ov iv v)
      release [v, ov, iv] []) := by intro _; rfl) (hs : swapsWithSole [.Subscript (.Name x p0) o pos'] e pos.line X.env = pure false := by rfl) (hw : swappedStores [.Subscript (.Name x p0) o pos'] e X.env = pure none := by rfl)
    (h1 : (assignEach [.Subscript (.Name x p0) o pos'] X.env).map (·.2) = [assign (.Subscript (.Name x p0) o pos') X.env] := by rfl) :
    PS X (.Assign [.Subscript (.Name x p0) o pos'] e pos) (ST G W (sPut i ma mb)) := (ps_asg hv (pg_sub ho hk (set_any hu) ha) hs hw h1).imp fun D σ H ⟨B, F, env, S, z, p⟩ => by
  refine ⟨B, F, env, S, z, (Pst.bindS (r := ma env S) p).imp ?_⟩
  rintro v H1 ⟨F1, env1, S1, ev, s1, z1, q1, p1⟩
  cases e1 : take env1 ev with
  | none => simp only [e1] at p1; exact p1.elim
  | some w =>
    obtain ⟨dv, env2⟩ := w
    simp only [e1] at p1
    obtain ⟨F2, s2, z2, r2⟩ := take_ok z1 q1 e1
    split at p1
    · rename_i d0 hsl
      obtain ⟨a, k1, _⟩ := z2.slot i _ hsl
      refine ⟨.ref a, slot_some k1, B, F2, env2, S1, z2, (Pst.bindS (r := mb env2 S1) (p1.mono s2)).imp ?_⟩
      rintro y H3 ⟨F3, env3, S3, ev3, s3, z3, q3, p3⟩
      cases e3 : dat env3 ev3 with
      | none => simp only [e3] at p3; exact p3.elim
      | some dk =>
        simp only [e3] at p3
        have rk := (dat_rep z3 q3 e3)
        split at p3
        · rename_i d hd
          obtain ⟨a2, j1, j2, j3, j4, j5⟩ := z3.slot i _ hd
          rw [k1] at j1; cases j1
          have rv := r2.mono s3
          cases e6 : putAt dk dv d with
          | none => simp only [e6] at p3; exact p3.elim
          | some d' =>
            simp only [e6] at p3
            have fin : ∀ {o : HO}, Own G F3 (upd H3 a o) a d' → D.nx σ (upd H3 a o) := fun {o} ow => p3 F3 σ _ (Same.refl F3) (z3.mut (o := o) hd k1 ow)
            cases d with
            | lst xs =>
              cases dk with
              | int j =>
                have rk := rk.rep z3.exF
                have rk : y = _ := rk
                subst rk
                obtain ⟨ws, j6, j7⟩ := j5
                have e6 : (ixN xs.length j).map (fun n => PD.D.lst (xs.set n dv)) = some d' := e6
                cases e4 : ixN xs.length j with
                | none => rw [e4] at e6; cases e6
                | some n =>
                  rw [e4] at e6; cases e6
                  exact .inl ⟨a, ws, j, n, rfl, rfl, j6, by rw [← j7.length]; exact e4, fin ⟨_, upd_same, Reps.set rv n j7⟩⟩
              | _ => cases e6
            | dct ks vs =>
              obtain ⟨ws, ⟨kvs, j6, rfl, rfl⟩, j7⟩ := j5
              unfold putAt at e6
              simp only at e6
              cases e4 : keyOf dk with
              | none => rw [e4] at e6; cases e6
              | some key =>
                rw [e4] at e6
                simp only at e6
                have ek := keyOf_ok e4 (rk.rep z3.exF)
                subst ek
                have kd : keyD key = dk := by cases dk <;> cases e4 <;> rfl
                have hk2 := hasK_ok key kvs
                split at e6
                · rename_i hl
                  rw [List.length_map] at hl
                  split at e6
                  · rename_i e5
                    cases e6
                    have hp : putK kvs key v = kvs.map fun kv => if kv.1 = key then (kv.1, v) else kv := by unfold putK; rw [← hk2, e5, if_pos rfl]
                    exact .inr ⟨a, _, rfl, .inl ⟨kvs, key, j6, rfl, by rw [sizeLine_eq]; omega, rfl⟩, fin ⟨_, ⟨putK kvs key v, upd_same, by rw [hp, put_keys], rfl⟩, by rw [hp]; exact putV_ok key rv j7⟩⟩
                  · rename_i e5
                    cases e6
                    have hp : putK kvs key v = kvs ++ [(key, v)] := by unfold putK; rw [← hk2, if_neg e5]
                    exact .inr ⟨a, _, rfl, .inl ⟨kvs, key, j6, rfl, by rw [sizeLine_eq]; omega, rfl⟩, fin ⟨_, ⟨putK kvs key v, upd_same, by rw [hp, List.map_append, ← kd]; rfl, rfl⟩, by rw [hp, List.map_append]; exact j7.append (.one rv)⟩⟩
                · cases e6
            | _ => cases e6
        · exact p3.elim
    · exact p1.elim
end
end PD

set_option Elab.async false
set_option linter.all false
set_option maxRecDepth 100000
set_option maxHeartbeats 4000000
/-! PD11: dicts of pairs, their keys walked; count of tuples. -/
namespace PD
open PySem PySem.Spec PyProof.Rows L2

def pairsOf : List D → Option (List (Key × D))
  | [] => some []
  | .tup [k, v] :: r => match keyOf k, pairsOf r with
    | some key, some rs => some ((key, v) :: rs)
    | _, _ => none
  | _ => none
def putG (kvs : List (Key × D)) (k : Key) (v : D) : List (Key × D) :=
  if (kvs.any fun kv => keyEq (keyD kv.1) k) = true then kvs.map (fun kv => if keyEq (keyD kv.1) k = true then (kv.1, v) else kv) else kvs ++ [(k, v)]
def mergeG : List (Key × D) → List (Key × D) → List (Key × D)
  | acc, [] => acc
  | acc, kv :: r => mergeG (putG acc kv.1 kv.2) r
def dicF : List D → Option EV
  | [.lst ds] => match pairsOf ds with
    | some rs => some (.fresh (.dct ((mergeG [] rs).map fun p => keyD p.1) ((mergeG [] rs).map (·.2))))
    | none => none
  | _ => none
section
variable {X : Cx} {G : Gc} {W : WX} {B : Bs} {F F' : Hp} {env : List Sl} {S : DS} {σ : L2.St} {H : Hp} {Q : VK}
inductive KR (G : Gc) (F : Hp) : List (Key × D) → List (Key × V) → Prop
  | nil : KR G F [] []
  | cons {k : Key} {d : D} {v : V} {ds : List (Key × D)} {vs : List (Key × V)} (h : Rep G F d v) (t : KR G F ds vs) : KR G F ((k, d) :: ds) ((k, v) :: vs)
theorem KR.app {ds es : List (Key × D)} {vs ws : List (Key × V)} (h : KR G F ds vs) (k : KR G F es ws) : KR G F (ds ++ es) (vs ++ ws) := by
  induction h with
  | nil => exact k
  | cons h t ih => exact .cons h ih
theorem KR.any {ds : List (Key × D)} {vs : List (Key × V)} (h : KR G F ds vs) (k : Key) : (ds.any fun kv => keyEq (keyD kv.1) k) = vs.any fun kv => decide (kv.1 = k) := by
  induction h with
  | nil => rfl
  | cons h t ih => rw [List.any_cons, List.any_cons, ih, keyEq_ok]
theorem KR.put {ds : List (Key × D)} {vs : List (Key × V)} (h : KR G F ds vs) (k : Key) {d : D} {v : V} (r : Rep G F d v) : KR G F (putG ds k d) (putK vs k v) := by
  unfold putG putK
  rw [h.any k]
  split
  · rename_i hc
    clear hc
    induction h with
    | nil => exact .nil
    | @cons k' d' v' ds vs h t ih =>
      rw [List.map_cons, List.map_cons]
      by_cases e : k' = k
      · rw [if_pos (by rw [keyEq_ok]; exact decide_eq_true e), if_pos e]; exact .cons r ih
      · rw [if_neg (by rw [keyEq_ok]; simp [e]), if_neg e]; exact .cons h ih
  · exact h.app (.cons r .nil)
theorem KR.merge {ds : List (Key × D)} {vs : List (Key × V)} (h : KR G F ds vs) : ∀ {acc : List (Key × D)} {ws : List (Key × V)}, KR G F acc ws → KR G F (mergeG acc ds) (mergeK ws vs) := by
  induction h with
  | nil => exact fun a => a
  | @cons k d v ds vs h t ih => exact fun a => ih (a.put k h)
theorem KR.keys {ds : List (Key × D)} {vs : List (Key × V)} (h : KR G F ds vs) : (ds.map fun p => keyD p.1) = vs.map fun p => keyD p.1 := by
  induction h with
  | nil => rfl
  | cons h t ih => rw [List.map_cons, List.map_cons, ih]
theorem KR.vals {ds : List (Key × D)} {vs : List (Key × V)} (h : KR G F ds vs) : Reps G F (ds.map (·.2)) (vs.map (·.2)) := by
  induction h with
  | nil => rfl
  | cons h t ih => exact ⟨_, _, rfl, h, ih⟩
theorem pairs_ok (e : Same F H) : ∀ {ds : List D} {rs : List (Key × D)} {ws : List V}, pairsOf ds = some rs → Reps G F ds ws → ∃ (ps : List Addr) (kvs : List (Key × V)), ws = ps.map V.ref ∧ Paired (fun p kv => SqT G.K H p [kV kv.1, kv.2]) ps kvs ∧ KR G F rs kvs
  | [], rs, ws, h, r => by
    cases h
    have r : ws = [] := r
    subst r
    exact ⟨[], [], rfl, .nil, .nil⟩
  | d :: ds, rs, ws, h, ⟨v, w, e1, r1, r2⟩ => by
    unfold pairsOf at h
    split at h
    · rename_i h0; cases h0
    · rename_i k v0 r0 h0
      cases h0
      split at h
      · rename_i key rs' h1 h2
        cases h
        obtain ⟨a, vs, rfl, t1, t2⟩ := r1
        obtain ⟨x, l1, rfl, x1, y, l2, rfl, y1, e3⟩ := t2
        subst e3
        have ek := keyOf_ok h1 x1
        subst ek
        obtain ⟨ps, kvs, rfl, p1, p2⟩ := pairs_ok e h2 r2
        subst e1
        exact ⟨a :: ps, (key, y) :: kvs, rfl, .cons (t1.mono e).sq p1, .cons y1 p2⟩
      · cases h
    · cases h
def rDicF (K : PySem.W.Frag) : List V → Hp → VK → Prop := fun xs H Q => ∃ (a : Addr) (ps : List Addr) (kvs : List (Key × V)), xs = [.ref a] ∧ SqL K H a (ps.map V.ref) ∧ Paired (fun p kv => SqT K H p [kV kv.1, kv.2]) ps kvs ∧
    ∀ p, H p = none → Q (.ref p) (upd H p (.dK (mergeK [] kvs)))
theorem new_dct {p : Addr} {kvs : List (Key × V)} {ds : List D} (z : Zok G B F env S σ H) (hp : H p = none) (r : Reps G F ds (kvs.map (·.2))) :
    Zok G B F env S σ (upd H p (.dK kvs)) ∧ EVok G B F env S σ (upd H p (.dK kvs)) (.ref p) (.fresh (.dct (kvs.map fun q => keyD q.1) ds)) := by
  refine ⟨z.laidO hp, p, rfl, free_of z.exF hp, free_of z.exS hp, free_of z.exR hp, fun i d h1 h2 => ?_, _, ⟨kvs, upd_same, rfl, rfl⟩, r⟩
  obtain ⟨a, q1, _, _, _, q5⟩ := z.slot i _ h1
  obtain ⟨o, ho, _⟩ := q5.objs
  rw [h2] at q1; cases q1
  rw [hp] at ho; cases ho
theorem fun_dic (hK : X.K = G.K) : FunD G dicF (rDicF X.K) := by
  intro B F env S σ H vs ds ev Q z r h p
  unfold dicF at h
  split at h
  · rename_i ds
    split at h
    · rename_i rs hrs
      cases h
      obtain ⟨v, rfl, r1⟩ := r.one
      obtain ⟨a, ws, rfl, h1, h2⟩ := r1.lst z.exF
      obtain ⟨ps, kvs, rfl, p1, p2⟩ := pairs_ok z.exF hrs h2
      refine ⟨a, ps, kvs, rfl, .inl h1, hK ▸ p1, fun l hl => ?_⟩
      have m := p2.merge (.nil)
      obtain ⟨z3, r3⟩ := new_dct z hl m.vals
      rw [← m.keys] at r3
      exact p F _ _ (Same.refl F) z3 r3
    · cases h
  · cases h
/-! ### the keys of a new dict, walked -/
def iKeysN (m : EM) : M (List D) := m.then fun a => fun e S => match a with
  | .fresh (.dct ks _) => .ok ks e S
  | _ => .bad
/-- a thing that no one has is frozen in another form -/
theorem Zok.frzAs (z : Zok G B F env S σ H) {a : Addr} {o : HO} (hF : F a = none) (hS : G.sh S a = none) (hR : B.R a = none) (hn : NoOwn env σ a) (h1 : ∀ ps, H a ≠ some (.tbl ps)) (h2 : ∀ φ, H a ≠ some (.ext φ)) (h3 : ∀ ps, o ≠ .tbl ps := by intro _ e; cases e) : Zok G B (upd F a o) env S σ (upd H a o) where
  tb := (z.tb.upd h1 h2 h3).of (fun b ps e => by
    by_cases hb : b = a
    · subst hb; rw [upd_same] at e; cases e; exact h3 ps rfl
    · rw [upd_ne hb] at e; exact z.tb.noF b ps e) z.tb.noR
  exF := fun b u e => by
    by_cases hb : b = a
    · subst hb; rw [upd_same] at e ⊢; exact e
    · rw [upd_ne hb] at e ⊢; exact z.exF b u e
  exS := fun b u e => by
    have hb : b ≠ a := fun w => by subst w; rw [hS] at e; cases e
    rw [upd_ne hb]; exact z.exS b u e
  exR := fun b u e => by
    have hb : b ≠ a := fun w => by subst w; rw [hR] at e; cases e
    rw [upd_ne hb]; exact z.exR b u e
  ex0 := z.ex0.trans fun b u e => by
    have hb : b ≠ a := fun w => by subst w; rw [hF] at e; cases e
    rw [upd_ne hb]; exact e
  new := fun b h1 h2 => by
    by_cases hb : b = a
    · subst hb; exact hR
    · rw [upd_ne hb] at h1; exact z.new b h1 h2
  dis := fun b h => by
    have hb : b ≠ a := fun e => by subst e; exact h hS
    rw [upd_ne hb]; exact z.dis b h
  len := z.len
  slot := fun i sl h => by
    have sF : Same F (upd F a o) := fun b u e => by
      have hb : b ≠ a := fun w => by subst w; rw [hF] at e; cases e
      rw [upd_ne hb]; exact e
    have q := z.slot i sl h
    cases sl with
    | un => trivial
    | frz d => obtain ⟨v, q1, q2⟩ := q; exact ⟨v, q1, q2.mono sF⟩
    | own d =>
      obtain ⟨b, q1, q2, q3, q4, q5⟩ := q
      have hb : b ≠ a := fun e => by subst e; exact hn i d h q1
      exact ⟨b, q1, by rw [upd_ne hb]; exact q2, q3, q4, q5.step sF fun o h => by rw [upd_ne hb]; exact h⟩
  sep := z.sep
theorem pdi_keysN {tg l : Expr} {ma : EM} (h : PE X l (ET G W ma)) : PI X tg l (IT G W (iKeysN ma)) := by
  refine ⟨fun pins s σ H R I ⟨B, F, env, S, z, p⟩ => ?_⟩
  refine thn (h.run pins s σ H (fun x H1 => ∃ F1 env1 S1 ks vs, Same F F1 ∧ Zok G B F1 env1 S1 σ H1 ∧ EVok G B F1 env1 S1 σ H1 x (.fresh (.dct ks vs)) ∧ PstI (Wlk G) G B W F1 σ R (.ok ks env1 S1)) I ⟨B, F, env, S, z, ?_⟩) fun v s1 ⟨x, H1, I1, r1, q1⟩ => ?_
  · unfold iKeysN M.then at p
    cases e : ma env S with
    | bad => rw [e] at p; exact p.elim
    | err y env1 S1 => rw [e] at p; exact p
    | ok ev env1 S1 =>
      rw [e] at p
      intro F1 v H1 s1 z1 q1
      simp only [RR.bind] at p
      split at p
      · rename_i ks vs
        exact ⟨F1, env1, S1, ks, vs, s1, z1, q1, fun F2 J H2 s2 z2 w => p F2 J H2 (s1.trans s2) z2 w⟩
      · exact p.elim
  · obtain ⟨F1, env1, S1, ks, vs, s2, z1, ⟨a, rfl, h1, h2, h3, h4, ws, ⟨kvs, h5, h6, h7⟩, h8⟩, q⟩ := q1
    obtain rfl : v = Value.ref a := r1
    obtain ⟨od, I2⟩ := I1.lock h5 trivial
    have e2 : upd H1 a (.frz od (.dK kvs)) a = some (.frz od (.dK kvs)) := upd_same
    obtain ⟨hs, hgd, hx, es, ep, vs', hdt, hsz, kv, hm⟩ := I2.frzK e2
    have z2 := z1.frzAs (o := .frz od (.dK kvs)) h1 h2 h3 h4 (fun ps e => by rw [h5] at e; cases e) (fun ps e => by rw [h5] at e; cases e)
    have sF : Same F1 (upd F1 a (.frz od (.dK kvs))) := fun b u e => by
      have hb : b ≠ a := fun w => by subst w; rw [h1] at e; cases e
      rw [upd_ne hb]; exact e
    have wk : Wlk G (upd F1 a (.frz od (.dK kvs))) (Itk a od kvs) ks := by
      have hl : ks.length = kvs.length := by rw [h6, List.length_map]
      have at' : ∀ H, Same (upd F1 a (.frz od (.dK kvs))) H → H a = some (.frz od (.dK kvs)) := fun H s => s _ _ upd_same
      refine ⟨fun i H hi s => ⟨at' H s, by omega⟩, fun H s => ⟨at' H s, by omega⟩, fun i H x H' hi s y => ?_⟩
      obtain ⟨e1, k, v, e2, e3⟩ := y
      subst e3
      exact ⟨e1, keyD k, by rw [h6, List.getElem?_map, e2]; rfl, keyD_rep k⟩
    refine iter_keys hs hgd hx hdt (pi_one (tk := s1.toks) I2 _ (turn_keys _ hdt) ⟨_, Heap.get?_push_size _ rfl, rfl, ?_⟩ (q _ _ _ sF z2 wk))
    rw [hsz] <;> rfl

/-! ### methods that only read -/
def eMeth (k : D → Bool) (f : D → List D → Option EV) (mo : EM) (mr : M (List EV)) : EM := mo.then fun a => fun e0 S0 => match dat e0 a with
  | some d0 => if k d0 = true then (mr.then fun xs => fun e S => match dat e a.look, dats e xs with
      | some d, some ds => ofO (f d ds) e S
      | _, _ => .bad) e0 S0 else .bad
  | none => .bad
def MethD (G : Gc) (f : D → List D → Option EV) (r : V → List V → Hp → VK → Prop) : Prop := ∀ (B : Bs) (F : Hp) (env : List Sl) (S : DS) (σ : L2.St) (H : Hp) (x : V) (d : D) (vs : List V) (ds : List D) (ev : EV) (Q : VK),
  Zok G B F env S σ H → RepL G F H d x → RepLs G F H ds vs → f d ds = some ev → PostV G B F σ Q ev env S → r x vs H Q
theorem dat_look {ev : EV} {d : D} (h : dat env ev = some d) : dat env ev.look = some d := by
  cases ev <;> exact h
theorem pd_meth {T : String} {k : D → Bool} {ty : V → Hp → Prop} {f : D → List D → Option EV} {r : V → List V → Hp → VK → Prop} {o e : Expr} {es : List Expr} {mo : EM} {mr : M (List EV)} {name : Str} {id : String} {apos cpos : Pos}
    (hk : ∀ F H d x, Same F H → RepL G F H d x → k d = true → ty x H) (hf : MethD G f r)
    (ht : TyOk X T ty) (pa : PlainAttrs T) (slot : Slot T name id) (hty : typeOf (.builtin id) = pure (.type "method_descriptor")) (hm : MtR X id r) (ho : PE X o (ET G W mo)) (ha : PA X (e :: es) (AT G W mr))
    (hbase : attributeBase o name X.env (eval o X.env) = eval o X.env := by rfl)
    (hfew : ((backTo cpos (starEach (e :: es) X.env)).all (fun x => !x.1) && (backToKw cpos (keywordEach [] X.env)).all (fun x => x.1.isSome)
      && decide ((e :: es).length + ([] : List Keyword).length + (if ([] : List Keyword).isEmpty then 0 else 1) < 30)) = true := by rfl)
    (hline : (apos.endLine == cpos.line) = true := by rfl) (hs : starEach (e :: es) X.env = (false, eval e X.env) :: starEach es X.env := by rfl) (hplain : (backTo cpos (starEach es X.env)).any (·.1) = false := by rfl) :
    PE X (.Call (.Attribute o name apos) (e :: es) [] cpos) (ET G W (eMeth k f mo mr)) :=
  (pe_mG ht pa slot hty hm ho ha hbase hfew hline hs hplain).imp fun σ H Q ⟨B, F, env, S, z, p⟩ => by
    refine ⟨B, F, env, S, z, (Pst.bind (r := mo env S) p).imp ?_⟩
    rintro x H1 ⟨F1, env1, S1, xa, s1, z1, q1, p1⟩
    cases e0 : dat env1 xa with
    | none => simp only [e0] at p1; exact p1.elim
    | some d0 =>
      simp only [e0] at p1
      split at p1
      · rename_i hk0
        refine ⟨hk F1 H1 d0 x z1.exF (dat_rep z1 q1 e0) hk0, ?_⟩
        obtain ⟨F2, s2, z2, q2, nf⟩ := look_ok z1 q1
        refine ⟨B, F2, env1, S1, z2, (PstA.bind (r := mr env1 S1) (p1.mono s2)).imp ?_⟩
        rintro vs H2 ⟨F3, env3, S3, ys, s3, z3, q3, p3⟩
        have q4 := q2.keep (env' := env3) (S' := S3) (H' := H2) nf s3
        cases e1 : dat env3 xa.look with
        | none => simp only [e1] at p3; exact p3.elim
        | some d =>
          cases e2 : dats env3 ys with
          | none => simp only [e1, e2] at p3; exact p3.elim
          | some ds =>
            simp only [e1, e2] at p3
            cases e3 : f d ds with
            | none => simp only [e3, ofO] at p3; exact p3.elim
            | some ev =>
              simp only [e3, ofO] at p3
              exact hf B F3 env3 S3 σ H2 x d vs ds ev Q z3 (dat_rep z3 q4 e1) (dats_rep z3 q3 e2) e3 p3
      · exact p1.elim
/-- t.count(x) -/
def isTup : D → Bool
  | .tup _ => true
  | _ => false
def cntF : D → List D → Option EV
  | .tup xs, [d] => match pys xs, py d with
    | some ps, some q => if (PyData.plainAll ps && q.plain && decide (PyData.depthAll ps ≤ 50)) = true then some (.val (.int ((ps.countP fun y => PyData.eqv y q : Nat) : Int))) else none
    | _, _ => none
  | _, _ => none
def tyTupR (K : PySem.W.Frag) (x : V) (H : Hp) : Prop := ∃ a vs, x = .ref a ∧ TupAt K H a vs
theorem ty_tupR : TyOk X "tuple" (tyTupR X.K) := by
  intro pins σ H s x v I r ⟨a, vs, e, h⟩
  subst e
  cases r
  rcases h with ⟨o, h, hd⟩ | ⟨o, its, n, h1, h2, h3, _⟩
  · obtain ⟨e1, _, _, _, o', h1, h2, _⟩ := (show ObjOk X.prog X.w H s.heap a (.frz o (.tup vs)) from I.hok a _ h)
    rw [e1] at h1; cases h1
    exact ⟨⟨_, e1, h2⟩, fun b e => by cases e; exact ⟨_, e1, hd⟩⟩
  · exact ⟨⟨o, I.kIn a o h1, h2⟩, fun b e => by cases e; exact ⟨o, I.kIn _ o h1, h3⟩⟩
def rCntT (K : PySem.W.Frag) : V → List V → Hp → VK → Prop := fun x vs H Q => ∃ a ws y ps q, x = .ref a ∧ vs = [y] ∧ SqT K H a ws ∧ DpAll K H ws ps ∧ Dp K H y q ∧ PyData.plainAll ps = true ∧ q.plain = true ∧ PyData.depthAll ps ≤ 50 ∧ Q (.int ((ps.countP fun y => PyData.eqv y q : Nat) : Int)) H
theorem mt_cntT (hu : X.A.units + 64 < cLine) : MtR X "tuple.count" (rCntT X.K) := by
  intro pins s σ H x vs v us Q I rx rv h
  obtain ⟨a, ws, y, ps, q, rfl, rfl, hT, d1, d2, e1, e2, e3, hq⟩ := h
  cases rx
  obtain ⟨u, rfl, ru⟩ := rv.one
  obtain ⟨its, rt, ht, hz⟩ := I.tuple hT
  obtain ⟨as, r1⟩ := Dp.readsAll I ps ws its d1 rt
  obtain ⟨bs, r2⟩ := Dp.reads I q y u d2 ru
  exact PySem.SeqAt.count_tuple_data (show s.heap.IsTuple a its.toArray from ht) (by simpa using r1) r2 e1 e2 (by have := Nat.min_le_left (PyData.depthAll ps) q.depth; omega) ⟨.int _, H, I.tok _, ⟨_, rfl⟩, hq⟩
theorem meth_cnt (hK : X.K = G.K) : MethD G cntF (rCntT X.K) := by
  intro B F env S σ H x d vs ds ev Q z hx hv h p
  unfold cntF at h
  split at h
  · rename_i xs d0
    split at h
    · rename_i ps q h1 h2
      split at h
      · rename_i hc
        cases h
        simp only [Bool.and_eq_true, decide_eq_true_eq] at hc
        obtain ⟨a, ws, rfl, t1, t2⟩ := hx.tup
        obtain ⟨y, rfl, ry⟩ := hv.one
        exact ⟨a, ws, y, ps, q, rfl, rfl, hK ▸ (t1.mono z.exF).sq, hK ▸ (t2.mono z.exF).dp h1, hK ▸ (ry.rep z.exF).dp h2, hc.1.1, hc.1.2, hc.2, p.here z rfl⟩
      · cases h
    · cases h
  · cases h
theorem kind_tup (hK : X.K = G.K) : ∀ F H d x, Same F H → RepL G F H d x → isTup d = true → tyTupR X.K x H := by
  intro F H d x s r h
  cases d with
  | tup ds =>
    obtain ⟨a, vs, rfl, h1, _⟩ := r.tup
    exact ⟨a, vs, rfl, hK ▸ h1.mono s⟩
  | _ => cases h
end
end PD

set_option Elab.async false
set_option linter.all false
set_option maxRecDepth 100000
set_option maxHeartbeats 4000000
/-! PD12: defs and their calls. -/
namespace PD
open PySem PySem.Spec PyProof.Rows L2

inductive FR where
  | ok (d : D) (fr : Bool) (S : DS) | err (x : Xn) (S : DS) | bad
abbrev FnS := List D → DS → FR
def retF (ev : EV) (e : List Sl) (S : DS) : FR := match ev with
  | .val d => .ok d false S
  | .fresh d => .ok d true S
  | .slot i => match e[i]? with
    | some (.own d) => .ok d true S
    | some (.frz d) => .ok d false S
    | _ => .bad
def toF : SR → FR
  | .nx _ S => .ok .non false S
  | .rt ev e S => retF ev e S
  | .err x _ S => .err x S
  | _ => .bad
/-- a def with np parameters and n names -/
def fnRun (np n : Nat) (m : SM) : FnS := fun ds S => if ds.length = np then toF (m (ds.map Sl.frz ++ List.replicate (n - ds.length) Sl.un) S) else .bad
def eCall (m : FnS) (mr : M (List EV)) : EM := mr.then fun xs => fun e S => match takes e xs with
  | some (ds, e') => match m ds S with
    | .ok d fr S' => .ok (if fr = true then .fresh d else .val d) e' S'
    | .err x S' => .err x e' S'
    | .bad => .bad
  | none => .bad

/-- what a call leaves -/
structure After (G : Gc) (F H : Hp) (S : DS) (F' : Hp) (S' : DS) (H' : Hp) : Prop where
  fF : Same F F'
  fH : Same F' H'
  sH : Same (G.sh S') H'
  keep : ∀ a o, H a = some o → G.sh S a = none → (∀ ps, o ≠ .tbl ps) → H' a = some o
  new : ∀ a, F' a ≠ none → F a = none → noTbl (H a) = none
  tb : Tb G.T F' (fun _ => none) H'
def XnF (G : Gc) (F H : Hp) (S : DS) (H0 : Hp) (x : Xn) (cls : Value) (d : Option Addr) : Prop := ∃ C vs, cls = .ref C ∧ G.mg x.n = some (.ref C) ∧ Reps G F x.fs vs ∧ vs.length = (fieldsOf x.n).length ∧
  (x.fs = [] ∧ d = none ∨ ∃ a, d = some a ∧ H a = some (.xd ((fieldsOf x.n).zip vs)) ∧ F a = none ∧ G.sh S a = none ∧ noTbl (H0 a) = none)
def RetOk (G : Gc) (F H : Hp) (S : DS) (Q : VK) (E : XK) : FR → Prop
  | .ok d fr S' => ∀ F' H' v, After G F H S F' S' H' → (if fr = true then ∃ a, v = .ref a ∧ F' a = none ∧ G.sh S' a = none ∧ noTbl (H a) = none ∧ Own G F' H' a d else Rep G F' d v) → Q v H'
  | .err x S' => ∀ F' H' cls dd, After G F H S F' S' H' → XnF G F' H' S' H x cls dd → E cls dd H'
  | .bad => False
def spOf (K : PySem.W.Frag) (mg : Str → Option Value) (T : List (Addr × Str)) (np : Nat) (m : FnS) : Sp := fun vs H Q E => vs.length = np ∧ ∃ (G : Gc) (F : Hp) (ds : List D) (S : DS), G.K = K ∧ G.mg = mg ∧ G.T = T ∧ Same F H ∧ Same (G.sh S) H ∧ (∀ a, G.sh S a ≠ none → F a = none) ∧ Tb G.T F (fun _ => none) H ∧ Reps G F ds vs ∧ RetOk G F H S Q E (m ds S)

section
variable {G : Gc} {F H : Hp} {S : DS}
/-- the heap at the entry but what is shared -/
def ownR (G : Gc) (S : DS) (H : Hp) : Hp := fun a => match G.sh S a with
  | none => noTbl (H a)
  | some _ => none
theorem ownR_of {a : Addr} {o : HO} (h : ownR G S H a = some o) : H a = some o ∧ G.sh S a = none ∧ ∀ ps, o ≠ .tbl ps := by
  unfold ownR at h
  cases e : G.sh S a with
  | none => rw [e] at h; exact ⟨(noTbl_some h).1, rfl, (noTbl_some h).2⟩
  | some u => rw [e] at h; cases h
theorem ownR_at {a : Addr} (h : G.sh S a = none) : ownR G S H a = noTbl (H a) := by unfold ownR; rw [h]
theorem getElem?_map_frz {ds : List D} {k i : Nat} {sl : Sl} (h : (ds.map Sl.frz ++ List.replicate k Sl.un)[i]? = some sl) : (∃ d, ds[i]? = some d ∧ sl = .frz d) ∨ sl = .un := by
  by_cases hi : i < ds.length
  · rw [List.getElem?_append_left (by simpa using hi), List.getElem?_map] at h
    cases q : ds[i]? with
    | none => rw [q] at h; cases h
    | some d => rw [q] at h; cases h; exact .inl ⟨d, rfl, rfl⟩
  · rw [List.getElem?_append_right (by simpa using Nat.le_of_not_lt hi)] at h
    have := List.mem_of_getElem? h
    exact .inr (List.eq_of_mem_replicate this)
theorem zok_start {ds : List D} {vs : List V} {N : List Str} (hF : Same F H) (hS : Same (G.sh S) H) (hd : ∀ a, G.sh S a ≠ none → F a = none) (ht : Tb G.T F (fun _ => none) H) (r : Reps G F ds vs) (hl : vs.length ≤ N.length) :
    Zok G ⟨ownR G S H, F⟩ F (ds.map Sl.frz ++ List.replicate (N.length - ds.length) Sl.un) S (L2.start N vs) H where
  exF := hF
  exS := hS
  exR := fun a o h => (ownR_of h).1
  ex0 := Same.refl F
  new := fun a h1 h2 => absurd h2 h1
  tb := ht.of ht.noF (fun a ps e => (ownR_of e).2.2 ps rfl)
  dis := fun a h => ⟨hd a h, by
    show ownR G S H a = none
    unfold ownR
    cases e : G.sh S a with
    | none => exact absurd e h
    | some u => rfl⟩
  len := by
    unfold L2.start
    have := r.length
    simp only [List.length_append, List.length_map, List.length_replicate]
    omega
  slot := fun i sl h => by
    rcases getElem?_map_frz h with ⟨d, hd, rfl⟩ | rfl
    · obtain ⟨v, h1, h2⟩ := r.get hd
      refine ⟨v, ?_, h2⟩
      unfold L2.start
      have hi : i < vs.length := (List.getElem?_eq_some_iff.mp h1).1
      rw [List.getElem?_append_left (by simpa using hi), List.getElem?_map, h1]; rfl
    · trivial
  sep := fun i j d d' a h1 => by
    rcases getElem?_map_frz h1 with ⟨d, hd, e⟩ | e <;> cases e
theorem after_of {F' H' : Hp} {S' : DS} {env' : List Sl} {σ' : L2.St} (z : Zok G ⟨ownR G S H, F⟩ F' env' S' σ' H') (hs : Same (G.sh S) H) (ht : Tb G.T F (fun _ => none) H) : After G F H S F' S' H' := by
  refine ⟨z.ex0, z.exF, z.exS, fun a o h k nt => z.exR a o (by show ownR G S H a = _; rw [ownR_at k, h]; exact noTbl_of nt), fun a h1 h2 => ?_, z.tb.of z.tb.noF (fun _ _ e => by cases e)⟩
  have h3 : ownR G S H a = none := z.new a h1 h2
  cases e : G.sh S a with
  | none => rw [ownR_at e] at h3; exact h3
  | some u =>
    have := (z.dis a (G.sh_ne (some_ne e))).1
    exact absurd this h1
theorem fresh_of {S' : DS} {a : Addr} (h2 : G.sh S' a = none) (h3 : ownR G S H a = none) : noTbl (H a) = none := by
  rw [ownR_at (G.shd _ _ _ h2)] at h3; exact h3
/-- the end of a body gives the end of the call -/
theorem pstS_of {N : List Str} {ds : List D} {vs : List V} {m : SM} {Q : VK} {E : XK} (hF : Same F H) (hS : Same (G.sh S) H) (hd : ∀ a, G.sh S a ≠ none → F a = none) (ht : Tb G.T F (fun _ => none) H) (r : Reps G F ds vs) (hl : vs.length ≤ N.length) {np : Nat}
    (p : RetOk G F H S Q E (fnRun np N.length m ds S)) : ST G (fun cls d _ H => E cls d H) m { nx := fun _ H' => Q .non H', rt := Q } (L2.start N vs) H := by
  refine ⟨_, F, _, S, zok_start hF hS hd ht r hl, ?_⟩
  unfold fnRun at p
  split at p
  · cases e : m (ds.map Sl.frz ++ List.replicate (N.length - ds.length) Sl.un) S with
    | nx e1 S1 =>
      rw [e] at p
      exact fun F' σ' H' s z => p F' H' .non (after_of z hS ht) (by rw [if_neg Bool.false_ne_true]; rfl)
    | rt ev e1 S1 =>
      rw [e] at p
      intro F' σ' v H' s z q
      have p : RetOk G F H S Q E (retF ev e1 S1) := p
      cases ev with
      | val d => exact p F' H' v (after_of z hS ht) (by rw [if_neg Bool.false_ne_true]; exact q)
      | fresh d =>
        obtain ⟨a, rfl, h1, h2, h3, h4, o⟩ := q
        exact p F' H' _ (after_of z hS ht) (by rw [if_pos rfl]; exact ⟨a, rfl, h1, h2, fresh_of h2 h3, o⟩)
      | slot i =>
        unfold retF at p
        simp only at p
        have q : (σ'[i]?).join = some v := q
        split at p
        · rename_i d hsl
          obtain ⟨a, q1, q2, q3, q4, q5⟩ := z.slot i _ hsl
          rw [q] at q1; cases q1
          exact p F' H' _ (after_of z hS ht) (by rw [if_pos rfl]; exact ⟨a, rfl, q2, q3, fresh_of q3 q4, q5⟩)
        · rename_i d hsl
          obtain ⟨w, q1, q2⟩ := z.slot i _ hsl
          rw [q] at q1; cases q1
          exact p F' H' _ (after_of z hS ht) (by rw [if_neg Bool.false_ne_true]; exact q2)
        · exact p.elim
    | err x e1 S1 =>
      rw [e] at p
      intro F' σ' H' cls d s z ⟨C, ws, c1, c2, c3, c4, c5⟩
      refine p F' H' cls d (after_of z hS ht) ⟨C, ws, c1, c2, c3, c4, c5.imp id fun ⟨a, k1, k2, k3, k4, k5, _⟩ => ⟨a, k1, k2, k3, k4, fresh_of k4 k5⟩⟩
    | bk e1 S1 => rw [e] at p; exact p.elim
    | ct e1 S1 => rw [e] at p; exact p.elim
    | bad => rw [e] at p; exact p.elim
  · exact p.elim
end
theorem Zok.noR {G : Gc} {B : Bs} {F : Hp} {env : List Sl} {S : DS} {σ : L2.St} {H : Hp} (z : Zok G B F env S σ H) {a : Addr} (h : noTbl (H a) = none) : B.R a = none := by
  cases q : B.R a with
  | none => rfl
  | some u => exact (noTbl_free h (z.exR a u q) fun ps w => z.tb.noR a ps (by rw [q, w])).elim
/-- what holds in the body of a def, wherever it is called -/
abbrev InFn (P : Program) (w : World) (K : PySem.W.Frag) (mg : Str → Option Value) (base : Heap) (N : List Str) (qual : Str) (st : Stmt) (f : Addr) (k : Nat) (p : Cx → WX → Prop) : Prop :=
  ∀ (cdv : Value) (A : Around) (outer : List Env) (s : Shared) (H : Hp) (E : XK), Room k (A.deeper (envOfC qual (defScope st) s.heap.objs.size f cdv)) → Takes (cxOf (L2.CX P w) P w K mg base N qual (defScope st) f cdv A outer s H E) (fun cls d _ H => E cls d H) →
    p (cxOf (L2.CX P w) P w K mg base N qual (defScope st) f cdv A outer s H E) (fun cls d _ H => E cls d H)
theorem fn_pd {T : List (Addr × Str)} {P : Program} {w : World} {K : PySem.W.Frag} {mg : Str → Option Value} {base : Heap} {x qual : Str} {st : Stmt} {f : Addr} {fd : FuncData} {N ps : List Str} {k : Nat} {m : SM} (F : Fun K x qual st f fd) (S : FnScope N ps (defScope st)) (hl : ps.length ≤ N.length := by decide)
    (body : ∀ (G : Gc), G.K = K → G.mg = mg → G.T = T → InFn P w K mg base N qual st f k fun X W => PSs X (defBody st) (ST G W m)) :
    FnOk P w K mg base (L2.CX P w) (k + 1) f fd ps (spOf K mg T ps.length (fnRun ps.length N.length m)) := by
  refine F.okX S (fun vs H Q E h => h.1) fun cdv A outer s H vs Q E hr hsp => ?_
  obtain ⟨h0, G, Fh, ds, Sd, hK, hmg, hT, h1, h2, h3, ht, h4, h5⟩ := hsp
  exact ⟨_, body G hK hmg hT cdv A outer s H E hr (takes_of rfl rfl rfl rfl), pstS_of h1 h2 h3 ht h4 (by omega) h5⟩

section
variable {X : Cx} {G : Gc} {W : WX} {k : Nat} {f : Addr} {fd : FuncData} {ps : List Str} {x : Str} {p pos : Pos} {e : Expr} {es : List Expr} {mr : M (List EV)} {m : FnS}
theorem call_of (hK : G.K = X.K) (hmg : G.mg = X.mg) {σ : L2.St} {H : Hp} {Q : VK} {np : Nat} (hm : ∀ ds S, ds.length ≠ np → m ds S = .bad) (h : ET G W (eCall m mr) σ H Q) : tCallS (spOf X.K X.mg G.T np m) (WE W) (AT G W mr) σ H Q := by
  obtain ⟨B, F, env, S, z, p⟩ := h
  refine ⟨B, F, env, S, z, (PstA.bind (r := mr env S) p).imp ?_⟩
  rintro vs H1 ⟨F1, env1, S1, xs, s1, z1, q1, p1⟩
  cases e1 : takes env1 xs with
  | none => simp only [e1] at p1; exact p1.elim
  | some q =>
    obtain ⟨ds, env2⟩ := q
    simp only [e1] at p1
    obtain ⟨F2, s2, z2, r2⟩ := takes_ok z1 q1 e1
    have hn : ds.length = np := by
      by_cases h : ds.length = np
      · exact h
      · rw [hm ds S1 h] at p1; exact p1.elim
    refine ⟨by rw [← r2.length]; exact hn, G, F2, ds, S1, hK, hmg, rfl, z2.exF, z2.exS, fun a h => (z2.dis a h).1, z2.tb.of z2.tb.noF (fun _ _ e => by cases e), r2, ?_⟩
    cases e2 : m ds S1 with
    | bad => simp only [e2] at p1; exact p1.elim
    | ok d fr S2 =>
      simp only [e2] at p1
      intro F3 H3 v af hv
      have z3 := z2.step (S' := S2) af.fF af.fH af.sH af.keep af.new (af.tb.of af.tb.noF z2.tb.noR)
      refine p1 F3 v H3 (s2.trans af.fF) z3 ?_
      cases fr with
      | false =>
        rw [if_neg Bool.false_ne_true] at hv ⊢
        exact hv
      | true =>
        rw [if_pos rfl] at hv ⊢
        obtain ⟨a, rfl, h1, h2, h3, h4⟩ := hv
        refine ⟨a, rfl, h1, h2, z2.noR h3, fun i d k1 k2 => ?_, h4⟩
        obtain ⟨b, j1, _, _, _, j5⟩ := z2.slot i _ k1
        obtain ⟨o, ho, _⟩ := j5.objs
        rw [k2] at j1; cases j1
        exact noTbl_free h3 ho fun ps w => j5.noT ps (by rw [ho, w])
    | err y S2 =>
      simp only [e2] at p1
      intro F3 H3 cls dd af ⟨C, ws, c1, c2, c3, c4, c5⟩
      have z3 := z2.step (S' := S2) af.fF af.fH af.sH af.keep af.new (af.tb.of af.tb.noF z2.tb.noR)
      refine p1 F3 H3 cls dd (s2.trans af.fF) z3 ⟨C, ws, c1, c2, c3, c4, c5.imp id fun ⟨a, k1, k2, k3, k4, k5⟩ => ⟨a, k1, k2, k3, k4, z2.noR k5, fun i d l1 l2 => ?_⟩⟩
      obtain ⟨b, j1, _, _, _, j5⟩ := z2.slot i _ l1
      obtain ⟨o, ho, _⟩ := j5.objs
      rw [l2] at j1; cases j1
      exact noTbl_free k5 ho fun ps w => j5.noT ps (by rw [ho, w])
theorem pd_call (hK : G.K = X.K) (hmg : G.mg = X.mg) (Fn : FnOk X.prog X.w X.K X.mg X.base (L2.CX X.prog X.w) k f fd ps (spOf X.K X.mg G.T ps.length m)) (hn : ∀ ds S, ds.length ≠ ps.length → m ds S = .bad) (tk : Takes X W) (hr : Room k X.A) (hg : Gl X x) (hm : X.mg x = some (.ref f)) (hk : PySem.W.keepIn X.K (.ref f) = true) (hb : Binds X.K fd ps [])
    (ha : PA X (e :: es) (AT G W mr)) (hdb : (x == ("__debug__" : Str)) = false := by decide) (he : starEach (e :: es) X.env = (false, eval e X.env) :: starEach es X.env := by rfl) (hpl : (backTo pos (starEach es X.env)).any (·.1) = false := by rfl) :
    PE X (.Call (.Name x p) (e :: es) [] pos) (ET G W (eCall m mr)) :=
  (pe_callS (E := WE W) Fn hr hg hm hk hb (fun σ => passAt tk σ) ha hdb he hpl).imp fun _ _ _ h => call_of hK hmg hn h
end
theorem fnRun_len {np n : Nat} {m : SM} : ∀ ds S, ds.length ≠ np → fnRun np n m ds S = .bad := fun ds S h => by unfold fnRun; rw [if_neg h]
end PD

set_option Elab.async false
set_option linter.all false
set_option maxRecDepth 100000
set_option maxHeartbeats 4000000
/-! PD13: raise; a caught error that is kept; a lambda that is called and caught. -/
namespace PD
open PySem PySem.Spec PyProof.Rows L2

/-- what an own exception class must tell -/
structure XcOk (K : PySem.W.Frag) (C : Addr) : Prop where
  ex : ∃ B newId initId bmB, ExcBaseFacts B newId initId bmB ∧ PySem.W.excIn K C bmB newId = true
  keep : PySem.W.keepIn K (.ref C) = true
  sub : PySem.W.subIn K (.ref C) (.type "BaseException") = some true
  ty : PySem.W.typeIn K (.ref C) = some (.type "type")
def sRaise (n : Str) : SM := fun e S => .err ⟨n, []⟩ e S
section
variable {X : Cx} {G : Gc} {W : WX}
theorem pds_raise {x m : Str} {C : Addr} {j : Nat} {p p2 pos pos' : Pos} (hmg : G.mg = X.mg) (hc : X.calm = true) (tk : Takes X W) (k : XcOk X.K C) (gC : X.mg x = some (.ref C)) (hf : fieldsOf x = []) (hg : Gl X x)
    (hdb : (x == ("__debug__" : Str)) = false := by decide) : PS X (.Raise (some (.Call (.Name x p) [.Constant (.str m) j p2] [] pos)) none pos') (ST G W (sRaise x)) := by
  obtain ⟨B, newId, initId, bmB, F, q⟩ := k.ex
  refine (ps_raise hc tk (pmk_own (p := p) (p2 := p2) (pos := pos) (j := j) (m := m) F q gC k.keep (raises_own k.sub k.ty) hg hdb)).imp fun D σ H ⟨B, F, env, S, z, p⟩ => ?_
  exact p F σ H (.ref C) none (Same.refl F) z ⟨C, [], rfl, by rw [hmg]; exact gC, rfl, by rw [hf]; rfl, .inl ⟨rfl, rfl⟩⟩

/-! ### an error that is kept -/
/-- an object that no one had is tracked -/
theorem _root_.L2.Inv.track {pins : List (Addr × Obj)} {σ : L2.St} {H : Hp} {s : Shared} {a C : Addr} {d : Option Addr} {oe : Obj} (I : L2.Inv X pins σ H s) (h : s.heap.get? a = some oe) (hz : Zc (.ref C) d oe) (hd : ∃ vs, oe.data = .fields vs)
    (na : H a = none) (n0 : X.s_0.heap.get? a = none) (nL : a ≠ X.env.locals) (np : ∀ p ∈ X.pn ++ pins, p.1 ≠ a) : L2.Inv X pins σ (upd H a (ExcH C d a)) s := by
  obtain ⟨vs, hd⟩ := hd
  have ne : ∀ b u, H b = some u → b ≠ a := fun b u e z => by rw [z, na] at e; cases e
  have n0' : ∀ b o, X.s_0.heap.get? b = some o → b ≠ a := fun b o e z => by rw [z, n0] at e; cases e
  have nc : ∀ x c, X.env.cells.lookup x = some c → c ≠ a := fun x c e z => by
    obtain ⟨v, o, ho, hd'⟩ := I.cell x c e
    rw [z, h] at ho; cases ho; rw [hd] at hd'; cases hd'
  refine ⟨I.ok, I.os, I.bare, ⟨I.base.keep, I.base.slot, fun b o e n hx => ?_, I.base.there, fun b xs e => ?_, fun b o x e => ?_, fun b ps e => ?_⟩, I.loc, I.cell, ?_, fun x c e => ?_, fun p hp => ?_, fun b o e => ?_, I.len⟩
  · rw [upd_ne (n0' b o e)]; exact I.base.free b o e n hx
  · have q := I.base.tups b xs e
    rw [upd_ne (ne b _ q)]; exact q
  · have q := I.base.frzs b o x e
    rw [upd_ne (ne b _ q)]; exact q
  · obtain ⟨m, q⟩ := I.base.tbls b ps e
    exact ⟨m, by rw [upd_ne (ne b _ q)]; exact q⟩
  · rw [upd_ne (fun z => nL z.symm)]; exact I.free
  · rw [upd_ne (nc x c e)]; exact I.freeC x c e
  · obtain ⟨e1, e2, e3⟩ := I.pin p hp
    exact ⟨e1, by rw [upd_ne (np p hp)]; exact e2, e3⟩
  · by_cases hb : b = a
    · subst hb
      rw [upd_same] at e; cases e
      exact ⟨⟨oe, vs, h, hz, hd⟩, ⟨oe, h⟩, fun h1 h2 ⟨oe', vs', q1, q2, q3⟩ st => ⟨oe', vs', st _ q1, q2, q3⟩⟩
    · rw [upd_ne hb] at e
      exact (I.hok b o e).stay (fun c v hc q => q) (fun c q => by rw [upd_ne (ne c _ q)]; exact q) fun c xs q => by rw [upd_ne (ne c _ q)]; exact q
/-- what 'except x as n' wishes of an exception that is kept -/
def wKp (K : PySem.W.Frag) (c : Value) (i : Nat) (ts : Addr → TS) (D : Ends) : WX := fun cls d σ H =>
  PySem.W.exmOne K cls c = some true ∧ ∃ C, cls = .ref C ∧ ∀ a, H a = none → ts a { nx := fun σ' H' => H' a = none → D.nx (σ'.set i none) (upd H' a (ExcH C d a)), rt := fun _ _ => False } (σ.set i (some (.ref a))) H
theorem ps_try_keep {x n : Str} {c : Value} {i : Nat} {body suite : List Stmt} {b₀ : Stmt} {np pos pos' : Pos} {tb : WX → TS} {ts : Addr → TS} (hs : X.stack = X.env :: X.outer) (hf : X.env.frame = some X.env.locals) (hex : X.ex = []) (hN : X.N.Nodup) (hi : X.N[i]? = some n) (hln : X.env.kindOf n = some .local) (hc : Names X x c)
    (hb : ∀ (W : WX) (pn : List (Addr × Obj)) (xe : Value → Shared → Prop), Takes (X.tr pn xe) W → PassesOwn (model X.prog X.w) X.A X.env xe → PSs (X.tr pn xe) body (tb W))
    (hsu : ∀ (a : Addr) (pn : List (Addr × Obj)), PSs (X.suite a pn) (b₀ :: suite) (ts a)) :
    PS X (.Try body [.ExceptHandler (some (.Name x np)) (some n) (b₀ :: suite) pos'] [] [] pos) (fun D σ H => tb (wKp X.K c i ts D) D σ H) := by
  refine ⟨fun pins s σ H D I h => ?_⟩
  have ok := I.ok
  have hfr : X.A.frames = some (X.env :: X.outer) := by rw [ok.frames, hs]
  have hloc : L2.Loc X.env.scope n := .inl hln
  refine wpAny_Try_except ?_
  refine wpAny_mono ((hb (wKp X.K c i ts D) (X.pn ++ pins) (fun e s₁ => wpAny (model X.prog X.w) X.A (noteFrame e X.env) (fun _ s₂ => wpAny (model X.prog X.w) X.A (setFlight e none) (fun _ s₃ =>
    wpAny (model X.prog X.w) X.A (handleBy e X.env [.ExceptHandler (some (.Name x np)) (some n) (b₀ :: suite) pos']) (SP X pins D) X.xe s₃) X.xe s₂) X.xe s₁) (fun u s' xx => ?_) PassesOwn.looking).run [] s σ H D (I.toTry _) h) (fun f s1 hsp => ?_) (fun e s1 he => he)
  · obtain ⟨a, B, sI, pins', σ', H', cls, d, rfl, J', nb, up, sky, na, os, ag, hb1, C, rfl, hyes⟩ := xx
    have J : L2.Inv X pins σ' H' sI := J'.ofTry ok
    have sky' : Sky B (X.env :: X.outer) a (Zc (.ref C) d) X.env.locals s'.heap := by rw [← hs]; exact sky
    show wpAny (model X.prog X.w) X.A (noteFrame (.ref a) X.env) _ _ _
    refine Sky.land Zc.steady hfr hf sky' fun h3 fl3 up3 => ?_
    have J3 : L2.Inv X pins σ' H' { s' with heap := h3 } := J.landed nb fl3.1 (up.trans up3) os ag
    obtain ⟨oe3, vs3, he3, hz3, hd3⟩ := fl3.there
    have notFr : ∀ {h : Heap} {o : Obj} {vs : Array Value}, h.FunFrames B (X.env :: X.outer) → h.get? a = some o → o.data = .fields vs → a ∉ frs (X.env :: X.outer) := fun {h o vs} ff e dd hm => by
      obtain ⟨_, o', e', hnf⟩ := ff.mem hm
      rw [e] at e'; cases e'
      exact hnf _ dd
    have nfr := notFr fl3.2.2.1 he3 hd3
    have nL : a ≠ X.env.locals := fun z => nfr (List.mem_filterMap.mpr ⟨X.env, List.mem_cons_self, by rw [hf, z]⟩)
    have nF : a ∉ X.fs := fun hm => by
      obtain ⟨e, he, q⟩ := List.mem_filterMap.mp hm
      exact nfr (List.mem_filterMap.mpr ⟨e, List.mem_cons_of_mem _ he, q⟩)
    have nI : sI.heap.get? a = none := by
      cases q : sI.heap.get? a with
      | none => rfl
      | some o =>
        have := nb a o q (by rw [hs]; exact nfr)
        rw [fl3.2.1] at this; cases this
    have n0 : X.s_0.heap.get? a = none := by
      cases q : X.s_0.heap.get? a with
      | none => rfl
      | some o =>
        by_cases hx : a ∈ X.ex
        · rw [hex] at hx; cases hx
        · obtain ⟨o', e⟩ := J.base.there a o q hx
          rw [nI] at e; cases e
    have np' : ∀ p ∈ X.pn ++ pins, p.1 ≠ a := fun p hp e => by
      have q := (J.pin p hp).1
      rw [e, nI] at q; cases q
    have S3 := J3.suite he3 hd3 na nL nF
    refine wpAny_handleBy_cons (codeAny_handlers_test ?_) (by intro q; cases q)
    have LT : PySem.W.Looks (model X.prog X.w) h3 (typeOf (.ref a)) (.ref C) := fun A Q E s k q => wpAny_typeOf_ref (k _ _ he3) (by rw [hz3.1]; exact q)
    have LM := PySem.W.exm_one (M := model X.prog X.w) (J3.kIn) LT hb1
    have test : ∀ {Q : Value → Shared → Prop} {E : Value → Shared → Prop}, Q c { s' with heap := h3 } → wpAny (model X.prog X.w) (X.A.mark (some (.ref a))) (eval (.Name x np) X.env) Q E { s' with heap := h3 } := fun {Q E} q => by
      obtain ⟨hg, hdbg, hm | ⟨hm, hv, hnn⟩⟩ := hc
      · exact ld_glob (X := X.suite a ((a, oe3) :: (X.pn ++ pins))) S3 hg hm q hdbg
      · exact ld_blt (X := X.suite a ((a, oe3) :: (X.pn ++ pins))) S3 hg hm hv q hnn hdbg
    refine test (LM.here ?_)
    refine codeAny_handlers_suite_as ?_
    refine HandSPX.lands_againZ fl3 fun h4 fl4 up4 => ?_
    have J4 : L2.Inv X pins σ' H' { s' with heap := h4 } := J.landed nb fl4.1 ((up.trans up3).trans up4) os ag
    obtain ⟨oe4, vs4, he4, hz4, hd4⟩ := fl4.there
    have S4 := J4.suite he4 hd4 na nL nF
    refine store_ok (X := X.suite a ((a, oe4) :: (X.pn ++ pins))) (v := .ref a) S4 hN hi hloc rfl (fun s5 S5 => ?_) (.inr hln)
    refine wpAny_mono ((hsu a ((a, oe4) :: (X.pn ++ pins))).run [] s5 _ H' _ S5 (hyes a na)) (fun f s6 hsp => ?_) (fun _ _ z => False.elim z)
    cases f with
    | next =>
      obtain ⟨σ6, H6, S6, q6⟩ := hsp
      obtain ⟨k1, k2, _⟩ := S6.pin (a, oe4) (List.mem_append_left _ List.mem_cons_self)
      have J6 := (S6.unsuite ok).track k1 hz4 ⟨_, hd4⟩ k2 n0 nL np'
      exact gone_ok J6 hN hi hln fun s7 J7 => ⟨_, _, J7, q6 k2⟩
    | brk => obtain ⟨σ6, H6, S6, q6⟩ := hsp; exact q6.elim
    | cont => obtain ⟨σ6, H6, S6, q6⟩ := hsp; exact q6.elim
    | ret u => obtain ⟨v6, σ6, H6, S6, r6, q6⟩ := hsp; exact q6.elim
  · cases f with
    | next =>
      obtain ⟨σ', H', J', q⟩ := hsp
      exact wpAny_execs_nil ⟨σ', H', J'.ofTry ok, q⟩
    | brk =>
      obtain ⟨σ', H', J', q⟩ := hsp
      exact ⟨σ', H', J'.ofTry ok, q⟩
    | cont =>
      obtain ⟨σ', H', J', q⟩ := hsp
      exact ⟨σ', H', J'.ofTry ok, q⟩
    | ret u =>
      obtain ⟨v, σ', H', J', r, q⟩ := hsp
      exact ⟨v, σ', H', J'.ofTry ok, r, q⟩

/-! ### a list that is not empty -/
def rNeL (K : PySem.W.Frag) : R2 := fun x y H Q => ∃ a b xs, x = .ref a ∧ y = .ref b ∧ SqL K H a xs ∧ SqL K H b [] ∧ Q (.bl (!xs.isEmpty)) H
theorem op_neL (hu : X.A.units + 64 < cLine) : OpR X (compareOp .NotEq) (rNeL X.K) := by
  intro pins s σ H x y v u Q I rx ry h
  obtain ⟨a, b, xs, rfl, rfl, h1, h2, q⟩ := h
  cases xs with
  | nil => exact op_neD hu pins s σ H _ _ v u Q I rx ry ⟨.list [], .list [], .lst h1 .nil, .lst h2 .nil, rfl, rfl, q⟩
  | cons z zs =>
    cases rx
    cases ry
    obtain ⟨its, r1, p1, _⟩ := I.list h1
    obtain ⟨its2, r2, p2, _⟩ := I.list h2
    have l1 := r1.length
    have l2 := r2.length
    refine (SeqAt.RcNeAt.lists_lengths (A := X.A) p1.isList p2.isList ?_ (by omega)) X.prog X.w X.xe _ ⟨.bl true, H, I, rfl, q⟩
    simp only [List.length_cons, List.length_nil] at l1 l2
    rw [List.size_toArray, List.size_toArray]
    simp; omega

/-! ### a lambda that is called: the wish about exceptions with the slots of the def that calls it -/
open LamX in
theorem pe_actS {CXg : CXT} {Eg : XK} {Ng : List Str} {qg : Str} {sg : Scope} {g f c' : Addr} {cdg pm ctv : Value} {params : Arguments} {body : Expr} {scope : Scope} {k i : Nat} {a : Str} {pn : List (Addr × Obj)} {xe : Value → Shared → Prop} {t : XK → TE} {p1 p2 : Pos}
    {pins : List (Addr × Obj)} {σ : L2.St} {H : Hp} {s : Shared} (I : L2.Inv X pins σ H s) (L : LamS X.env.scope scope) (hf : s.heap.get? f = some (PySem.W.kla_obj "<lambda>" (X.env.qual ++ "<lambda>") params body scope (cloFrom X.env.cells scope.names []) pm c' ctv)) (hfn : H f = none) (hfr : f ∉ frs X.stack)
    (hbind : bindArgs (PySem.W.kla_fn "<lambda>" (X.env.qual ++ "<lambda>") params body scope (cloFrom X.env.cells scope.names []) pm (.ref c') ctv) ⟨[], []⟩ = pure [])
    (tk : Takes ((cxOf CXg X.prog X.w X.K X.mg X.base Ng qg sg g cdg X.A X.stack s H Eg).tr pn xe) W) (hr : Room (k + 1) (X.A.deeper (envOfC qg sg s.heap.objs.size g cdg)))
    (hbody : ∀ (A : Around) (outer : List Env) (s : Shared) (H : Hp) (E : XK), Room k (A.deeper (lamEnv X scope s.heap.objs.size f c')) → PE (lamCx X A outer s H E scope f c') body (t E))
    (hN : Ng[i]? = some a) (hv : Vis sg a) (hd : (a == ("__debug__" : Str)) = false) (hcd : (a == ("__classdict__" : Str)) = false) :
    PE ((cxOf CXg X.prog X.w X.K X.mg X.base Ng qg sg g cdg X.A X.stack s H Eg).tr pn xe) (.Call (.Name a p1) [] [] p2)
      (fun σZ HZ Q => σZ[i]? = some (some (.ref f)) ∧ HZ c' = some (CodeO c' (X.env.qual ++ "<lambda>")) ∧ t (WE W σZ) σ HZ Q) := by
  refine ⟨fun pinsZ sZ σZ HZ Q IZ h => ?_⟩
  obtain ⟨hs, hc, ht⟩ := h
  refine wpAny_Call_Name_kw (thn ((pe_var (pos := p1) (i := i) hN hv hd hcd).run pinsZ sZ σZ HZ (fun v H1 => v = .ref f ∧ H1 = HZ) IZ ⟨.ref f, hs, rfl, rfl⟩) fun u s1 ⟨v, H1, I1, r1, q1⟩ => ?_)
  obtain ⟨ev, eH⟩ := q1
  subst ev
  rw [eH] at I1
  obtain rfl : u = Value.ref f := r1
  have of1 : s1.heap.get? f = some (PySem.W.kla_obj "<lambda>" (X.env.qual ++ "<lambda>") params body scope (cloFrom X.env.cells scope.names []) pm c' ctv) := I1.base.keep f _ hf hfn hfr (fun z => nomatch (show f ∈ ([] : List Addr) from z))
  refine PySem.W.callWith_F0 ⟨_, _, _, _, of1⟩ ?_
  have un : Un (frs X.stack) [] H HZ s.heap s1.heap := I1.base
  obtain ⟨⟨oc, vs, t0, hoc, hdc, hvc⟩, _, _⟩ := I1.hok c' _ hc
  have rc : codeAny (model X.prog X.w) (X.A.deeper (envOfC qg sg s.heap.objs.size g cdg)) (.call (.ref f) ⟨[], []⟩) (CR (L2.CX X.prog X.w) (envOfC qg sg s.heap.objs.size g cdg :: X.stack) X.prog X.w HZ s1 Q (WE W σZ)) s1 := by
    refine PySem.W.kla_callFunE hr.depth of1 rfl L.co L.gen rfl ⟨c', oc, vs, t0, rfl, hoc, hdc, hvc⟩ ?_
    rw [hbind]
    refine wpAny_pure (wpAny_newFunctionEnv (fun y hy => (L.own y hy).2) (fun y hy => absurd hy (by simp)) (fun h₁ hns hsb => ⟨I1.nolimit.fresh _ hsb, ?_⟩) L.kind)
    show codeAny _ _ (.expr body (lamEnv X scope s1.heap.objs.size f c')) _ _
    have kp : ∀ b o, s1.heap.get? b = some o → h₁.get? b = some o := fun b o e => hsb.extBut b o (Nat.ne_of_lt (Heap.lt_size e)) (Heap.get?_push_of_some _ e)
    have J : L2.Inv (lamCx X (X.A.deeper (envOfC qg sg s.heap.objs.size g cdg)) (envOfC qg sg s.heap.objs.size g cdg :: X.stack) s1 HZ (WE W σZ) scope f c') [] σ HZ { s1 with heap := h₁, toks := s1.toks + ([] : List (Str × Value)).length } :=
      lam_start2 I L I1.env0 hr.hd un hns kp
    refine PySem.W.kla_codeExpr (wpAny_mono ((hbody _ _ s1 HZ (WE W σZ) (hr.deeper _)).run [] _ _ HZ Q J ht) (fun v s' hq => ?_) fun e s' hq => hq)
    obtain ⟨w', H', J', rv, q⟩ := hq
    exact ⟨w', H', J'.os, J'.bare, J'.base, J'.hok, rv, q⟩
  refine wpAny_call (codeAny_mono rc fun r s' hq => ?_)
  cases r with
  | error e => exact passAt tk σZ pinsZ HZ s1 e s' I1 hq
  | ok fl =>
    cases fl with
    | ret u => exact I1.after hq
    | next => exact False.elim hq
    | brk => exact False.elim hq
    | cont => exact False.elim hq
/-- the def that calls what it got -/
def GivesS (X : Cx) (Ng : List Str) (x : Str) (sg : Scope) (g : Addr) (cdg : Value) (bg : List Stmt) (a : Str) (q : Str) (TT : (XK → Hp → VK → Prop) → Hp → VK → Prop) : Prop :=
  ∀ (f c' : Addr) (s : Shared) (H : Hp) (Q : VK) (tl : XK → Hp → VK → Prop),
    (∀ (W : WX) (pn : List (Addr × Obj)) (xe : Value → Shared → Prop) (p1 p2 : Pos), Takes ((cxOf CX0 X.prog X.w X.K X.mg X.base Ng x sg g cdg X.A X.stack s H E0).tr pn xe) W →
      PE ((cxOf CX0 X.prog X.w X.K X.mg X.base Ng x sg g cdg X.A X.stack s H E0).tr pn xe) (.Call (.Name a p1) [] [] p2) (fun σZ HZ Q => σZ[0]? = some (some (.ref f)) ∧ HZ c' = some (LamX.CodeO c' q) ∧ tl (WE W σZ) HZ Q)) →
    H c' = some (LamX.CodeO c' q) → TT tl H Q →
    ∃ t, PSs (cxOf CX0 X.prog X.w X.K X.mg X.base Ng x sg g cdg X.A X.stack s H E0).nox bg t ∧ t { nx := fun _ H' => Q .non H', rt := Q } (L2.start Ng [.ref f]) H
open LamX in
/-- x(lambda: body) -/
theorem pe_lamcallS {T : List (Addr × Str)} {TT : (XK → Hp → VK → Prop) → Hp → VK → Prop} {x a : Str} {g c P : Addr} {k : Nat} {pg : Arguments} {bg : List Stmt} {sg : Scope} {dV kV doc pm cdv ct oc : Value} {an od : Option Addr} {osl : Array (Option Value)} {Ng : List Str}
    {params : Arguments} {body : Expr} {scope : Scope} {t : XK → TE} {p lpos pos : Pos} (hg : Gl X x) (hm : X.mg x = some (.ref g)) (hk : PySem.W.keepIn X.K (.ref g) = true)
    (lk : X.K.lookup g = some ⟨oc, od, .func (PySem.W.fnOf x x pg bg sg dV kV doc pm an cdv ct), osl⟩) (hcg : PySem.W.codeIn X.K cdv x = true) (hb : L2.Binds X.K (PySem.W.fnOf x x pg bg sg dV kV doc pm an cdv ct) [a] []) (Sg : FnScope Ng [a] sg) (hNg : Ng[0]? = some a) (hva : Vis sg a)
    (hG : GivesS X Ng x sg g cdv bg a (X.env.qual ++ "<lambda>") TT)
    (TB : TabB X.base X.mg c P) (hcode : X.env.code = .ref c) (hmT : (P, X.env.qual ++ "<lambda>") ∈ T) (hu : ∀ p ∈ T, p.1 = P → p.2 = X.env.qual ++ "<lambda>") (hr : Room (k + 2) X.A) (L : LamS X.env.scope scope) (hdef : defaultsOf params X.env = ([], []))
    (hbind : ∀ (q : Str) (cl : List (Str × Addr)) (pm cv ctv : Value), bindArgs (PySem.W.kla_fn "<lambda>" q params body scope cl pm cv ctv) ⟨[], []⟩ = pure [])
    (hbody : ∀ (A : Around) (outer : List Env) (s : Shared) (H : Hp) (E : XK) (f c' : Addr), Room k (A.deeper (lamEnv X scope s.heap.objs.size f c')) → PE (lamCx X A outer s H E scope f c') body (t E))
    (hdb : (x == ("__debug__" : Str)) = false := by decide) (hd : (a == ("__debug__" : Str)) = false := by decide) (hcd : (a == ("__classdict__" : Str)) = false := by decide) :
    PE X (.Call (.Name x p) [.Lambda params body scope lpos] [] pos) (tLam T TT t) := by
  refine ⟨fun pins s σ H Q I h => ?_⟩
  obtain ⟨hT, h⟩ := h
  refine wpAny_Call_Name_kw (ld_glob I hg hm ?_ hdb)
  refine PySem.W.callWith_K (h₀ := X.base) I.ok.mod.kin hk ?_ (by rfl) (by rfl)
  show wpAny _ _ (spliced ((false, eval (.Lambda params body scope lpos) X.env) :: backTo pos (starEach [] X.env))) _ _ s
  refine Calls.spliced_cons (lam_make2 I TB hcode hmT hu hT hdef (L.has I.ok) fun f c' pm' ctv H1 s' I1 eN T1 hf hfn hfr hco => ?_)
  refine Calls.spliced_nil ⟨I1.kIn, ?_⟩
  have rc : codeAny (model X.prog X.w) X.A (.call (.ref g) ⟨[.ref f], []⟩) (CR CX0 X.stack X.prog X.w H1 s' Q E0) s' := by
    refine run_ofS (N := Ng) (ps := [a]) (us := [.ref f]) (vs := [.ref f]) lk hcg Sg hr I1.env0 (hb s' [.ref f] I1.kIn rfl) (.cons rfl .nil) rfl fun hr' => ?_
    obtain ⟨t', ht', hq'⟩ := hG f c' s' H1 Q (fun E H' Q' => t E σ H' Q') (fun W pn xe p1 p2 tk => pe_actS (i := 0) I1 L hf hfn hfr (hbind _ _ _ _ _) tk hr' (fun A outer s H E hr2 => hbody A outer s H E f c' hr2) hNg hva hd hcd) hco (h H1 eN T1)
    exact ⟨t', ht'.nox, hq'⟩
  refine wpAny_call (codeAny_mono rc fun r s2 hq => ?_)
  cases r with
  | error e => exact (show False from hq).elim
  | ok fl =>
    cases fl with
    | ret u => exact I1.after hq
    | next => exact False.elim hq
    | brk => exact False.elim hq
    | cont => exact False.elim hq
/-! ### try: action() except MakeError as error: found.append(error) -/
def TTc (K : PySem.W.Frag) (C0 : Addr) : (XK → Hp → VK → Prop) → Hp → VK → Prop := fun tl H Q => ∀ l, H l = none → ∀ (E : XK) (Q' : VK),
  (∀ cls d H', H' l = some (.lst []) → PySem.W.exmOne K cls (.ref C0) = some true → (∃ C, cls = .ref C ∧ ∀ a, H' a = none → ∀ b, upd (upd H' l (.lst [.ref a])) a (ExcH C d a) b = none → Q (.ref a) (upd (upd (upd H' l (.lst [.ref a])) a (ExcH C d a)) b (.lst []))) → E cls d H') →
  (∀ v H', H' l = some (.lst []) → (∀ b, H' b = none → Q .non (upd H' b (.lst []))) → Q' v H') → tl E (upd H l (.lst [])) Q'
/-- the names of the def that catches -/
structure CaughtS (sg : Scope) : Prop where
  s0 : sg.names.lookup ("action" : Str) = some .local
  s1 : sg.names.lookup ("found" : Str) = some .local
  s2 : sg.names.lookup ("error" : Str) = some .local
  s3 : sg.names.lookup ("MakeError" : Str) = some .globalImplicit
theorem caught_gives {x q : Str} {sg : Scope} {g C0 : Addr} {cdg : Value} {k k2 kr : Nat} {p1 p2 p3 q1 q2 q3 q4 q5 q6 q7 q8 q9 q10 q11 r1 r2 r3 r4 r5 r6 r7 r8 r9 : Pos} (hs : CaughtS sg) (hm : X.mg "MakeError" = some (.ref C0)) (hr : Room (kr + 2) X.A) (hline : (q6.endLine == q8.line) = true) :
    GivesS X ["action", "found", "error"] x sg g cdg [.Assign [.Name "found" p1] (.List [] p2) p3,
      .Try [.Expr (.Call (.Name "action" q1) [] [] q2) q3] [.ExceptHandler (some (.Name "MakeError" q4)) (some "error") [.Expr (.Call (.Attribute (.Name "found" q5) "append" q6) [.Name "error" q7] [] q8) q9] q10] [] [] q11,
      .Return (some (.IfExp (.Compare (.Name "found" r1) [.NotEq] [.List [] r2] r3) (.Subscript (.Name "found" r4) (.Constant (.int 0) k r5) r6) (.Constant .none k2 r7) r8)) r9] "action" q (TTc X.K C0) := by
  intro f c' s H Q tl act hc h
  let Y := (cxOf CX0 X.prog X.w X.K X.mg X.base ["action", "found", "error"] x sg g cdg X.A X.stack s H E0).nox
  have nd : Y.N.Nodup := by show (["action", "found", "error"] : List Str).Nodup; decide
  have hu : Y.A.units + 64 < cLine := (hr.deeper _).units
  have v0 : Vis Y.env.scope "action" := .inl hs.s0
  have v1 : Vis Y.env.scope "found" := .inl hs.s1
  have v2 : Vis Y.env.scope "error" := .inl hs.s2
  have e1 : PE Y (.List [] p2) (tLst tNil) := pe_lst pa_nil
  have s1 : PS Y (.Assign [.Name "found" p1] (.List [] p2) p3) _ := ps_set (i := 1) nd rfl (.inl hs.s1) e1 rfl (.inr hs.s1)
  have s2 : PS Y (.Try [.Expr (.Call (.Name "action" q1) [] [] q2) q3] [.ExceptHandler (some (.Name "MakeError" q4)) (some "error") [.Expr (.Call (.Attribute (.Name "found" q5) "append" q6) [.Name "error" q7] [] q8) q9] q10] [] [] q11) _ :=
    ps_try_keep (X := Y) (i := 2) (c := .ref C0) (tb := fun W D σ H => σ[0]? = some (some (.ref f)) ∧ H c' = some (LamX.CodeO c' q) ∧ tl (WE W σ) H fun _ H' => D.nx σ H')
      (ts := fun a => tDrop (tBM X.K "list" rAppend (tVar 1) (tCons (tVar 2) tNil))) rfl rfl rfl nd rfl hs.s2 ⟨hs.s3, by decide, .inl hm⟩ (fun W pn xe tk _ => by
        refine ⟨fun pins s' σ H' D I h' => ?_⟩
        obtain ⟨h1, h2, h3⟩ := h'
        have hq := pss_one (ps_expr (pos := q3) (act W pn xe q1 q2 tk))
        exact hq.run pins s' σ H' D I ⟨h1, h2, h3⟩)
      (fun a pn => pss_one (ps_expr (pe_bm PySem.F.plainAttrs_list PySem.F.slot_list_append PySem.F.type_list_append mt_append (pe_var (i := 1) rfl v1) (pa_cons (pe_var (i := 2) rfl v2) pa_nil) rfl rfl hline)))
  have e3 : PE Y (.IfExp (.Compare (.Name "found" r1) [.NotEq] [.List [] r2] r3) (.Subscript (.Name "found" r4) (.Constant (.int 0) k r5) r6) (.Constant .none k2 r7) r8) _ :=
    pe_ifExp (pt_cmpR (op_neL hu) (pe_var (i := 1) rfl v1) (pe_lst pa_nil) rfl) (pe_ix ix_list (pe_var (i := 1) rfl v1) pe_int (fun _ _ => rfl)) pe_non
  refine ⟨_, pss_cons s1 (pss_cons s2 (pss_one (ps_ret e3))), ?_⟩
  refine ⟨by show 0 ≤ sizeLine; exact Nat.zero_le _, fun l hl => ?_⟩
  refine ⟨rfl, by rw [upd_ne (ne_of_none hc hl)]; exact hc, h l hl _ _ (fun cls d H' h1 h2 ⟨C, h3, h4⟩ => ?_) (fun v H' h1 h2 => ?_)⟩
  · refine ⟨h2, C, h3, fun a ha => ?_⟩
    have nl : a ≠ l := fun e => by rw [e, h1] at ha; cases ha
    refine ⟨.ref l, rfl, .inl ⟨rfl, [], .inl (.inl h1)⟩, .ref a, rfl, l, [], .ref a, rfl, rfl, h1, by rw [sizeLine_eq]; decide, fun ha' => ?_⟩
    have e1 : upd (upd H' l (.lst ([] ++ [V.ref a]))) a (ExcH C d a) l = some (.lst [.ref a]) := by rw [upd_ne (Ne.symm nl), upd_same]; rfl
    refine ⟨.ref l, rfl, by show 0 ≤ sizeLine; exact Nat.zero_le _, fun b hb => ?_⟩
    have nb : b ≠ l := fun e => by rw [e, e1] at hb; cases hb
    refine ⟨l, b, [.ref a], rfl, rfl, .inl (.inl (by rw [upd_ne (Ne.symm nb)]; exact e1)), .inl (.inl upd_same), true, rfl, ?_⟩
    show if true = true then _ else _
    rw [if_pos rfl]
    exact ⟨.ref l, rfl, l, [.ref a], 0, .ref a, rfl, rfl, .inl (.inl (by rw [upd_ne (Ne.symm nb)]; exact e1)), rfl, h4 a ha b hb⟩
  · refine ⟨.ref l, rfl, by show 0 ≤ sizeLine; exact Nat.zero_le _, fun b hb => ?_⟩
    have nb : b ≠ l := fun e => by rw [e, h1] at hb; cases hb
    refine ⟨l, b, [], rfl, rfl, .inl (.inl (by rw [upd_ne (Ne.symm nb)]; exact h1)), .inl (.inl upd_same), false, rfl, ?_⟩
    show if false = true then _ else _
    rw [if_neg Bool.false_ne_true]
    exact h2 b hb
end
end PD

set_option Elab.async false
set_option linter.all false
set_option maxRecDepth 100000
set_option maxHeartbeats 4000000
/-! PD14: caught(lambda: e). -/
namespace PD
open PySem PySem.Spec PyProof.Rows L2

/-- what a call that catches makes of e -/
def eCaught (ns : List Str) (me : EM) : EM := fun e S => match me e S with
  | .ok _ e' S' => .ok (.val .non) e' S'
  | .err x e' S' => if decide (x.n ∈ ns) = true then .ok (.val (.exc x.n x.fs)) e' S' else .bad
  | .bad => .bad
section
variable {X : Cx} {G : Gc} {B : Bs} {W : WX} {F : Hp} {env : List Sl} {S : DS} {σ : L2.St} {H H' : Hp} {Q : VK}
theorem Zok.lam (z : Zok G B F env S σ H) (e : LamX.ExtN H H') (t : LamX.Tabs G.T H') : Zok G B F env S σ H' := by
  have nF : ∀ b u, F b = some u → ∀ ps, u ≠ .tbl ps := fun b u h ps w => z.tb.noF b ps (by rw [h, w])
  have nR : ∀ b u, B.R b = some u → ∀ ps, u ≠ .tbl ps := fun b u h ps w => z.tb.noR b ps (by rw [h, w])
  have nS : ∀ b u, G.sh S b = some u → ∀ ps, u ≠ .tbl ps := fun b u h ps w => G.shT S b ps (by rw [h, w])
  refine ⟨fun b u h => e b u (z.exF b u h) (nF b u h), fun b u h => e b u (z.exS b u h) (nS b u h), fun b u h => e b u (z.exR b u h) (nR b u h), z.ex0, z.new, z.dis, ⟨t, z.tb.noF, z.tb.noR⟩, z.len, fun i sl h => ?_, z.sep⟩
  have q := z.slot i sl h
  cases sl with
  | un => trivial
  | frz d => exact q
  | own d =>
    obtain ⟨a, q1, q2, q3, q4, q5⟩ := q
    exact ⟨a, q1, q2, q3, q4, q5.step (Same.refl F) fun o ho => e a o ho fun ps w => q5.noT ps (by rw [ho, w])⟩
/-- the error, kept: it and its dict stand frozen -/
theorem kept_exc {F : Hp} {x : Xn} {C a : Addr} {d : Option Addr} {vs : List V} (z : Zok G B F env S σ H) (c2 : G.mg x.n = some (.ref C)) (c3 : Reps G F x.fs vs) (c4 : vs.length = (fieldsOf x.n).length)
    (c5 : x.fs = [] ∧ d = none ∨ ∃ y, d = some y ∧ H y = some (.xd ((fieldsOf x.n).zip vs)) ∧ F y = none ∧ G.sh S y = none ∧ B.R y = none ∧ NoOwn env σ y) (ha : H a = none) :
    ∃ F', Same F F' ∧ Zok G B F' env S σ (upd H a (ExcH C d a)) ∧ Rep G F' (.exc x.n x.fs) (.ref a) := by
  rcases c5 with ⟨e1, e2⟩ | ⟨y, e1, h1, h2, h3, h4, h5⟩
  · have hF := free_of z.exF ha
    have s : Same F (upd F a (ExcH C d a)) := fun b u e => by rw [upd_ne (ne_of_none e hF)]; exact e
    exact ⟨_, s, z.laid ha (fun ps e => by cases e), a, C, d, vs, rfl, c2, upd_same, c3.mono s, c4, .inl ⟨e1, e2⟩⟩
  · have z1 := z.freeze (d := .non) h2 h3 h4 h5 (fun ps e => by rw [h1] at e; cases e)
    have hF := free_of z1.exF ha
    have s1 := same_frzAt (H := H) h2
    have s : Same (frzAt F H y) (upd (frzAt F H y) a (ExcH C d a)) := fun b u e => by rw [upd_ne (ne_of_none e hF)]; exact e
    exact ⟨_, s1.trans s, z1.laid ha (fun ps e => by cases e), a, C, d, vs, rfl, c2, upd_same, c3.mono (s1.trans s), c4, .inr ⟨y, e1, s _ _ (by rw [frzAt_same]; exact h1)⟩⟩
theorem caught_of {C0 : Addr} {ns : List Str} {me : EM} (hx : ∀ n ∈ ns, ∀ C, G.mg n = some (.ref C) → PySem.W.exmOne X.K (.ref C) (.ref C0) = some true) (h : ET G W (eCaught ns me) σ H Q) :
    LamX.tLam G.T (TTc X.K C0) (fun E => ET G (fun cls d _ H => E cls d H) me) σ H Q := by
  obtain ⟨B, F, env, S, z, p⟩ := h
  refine ⟨z.tb.tab, fun H1 e1 t1 l hl E Q' hE hQ => ?_⟩
  have z1 := z.lam e1 t1
  have z2 := z1.aside (o := .lst []) hl
  have h0 : B.F0 l = none := free_of z1.ex0 (free_of z1.exF hl)
  have hR : B.R l = none := free_of z1.exR hl
  refine ⟨B.add l (.lst []), F, env, S, z2, ?_⟩
  unfold eCaught at p
  cases q : me env S with
  | bad => rw [q] at p; exact p.elim
  | ok ev e' S' =>
    rw [q] at p
    intro F' v H' s z' _
    exact hQ v H' z'.asideAt fun b hb => p F' .non _ s ((z'.asideOff h0 hR).laidO hb) rfl
  | err x e' S' =>
    rw [q] at p
    simp only at p
    split at p
    · rename_i hn
      intro F' H' cls d s z' ⟨C, vs, c1, c2, c3, c4, c5⟩
      subst c1
      refine hE _ d H' z'.asideAt (hx x.n (by simpa using hn) C c2) ⟨C, rfl, fun a ha b hb => ?_⟩
      have nl : a ≠ l := fun e => by rw [e, z'.asideAt] at ha; cases ha
      have z3 := (z'.asideMut h0 (.lst [.ref a])).asideOff h0 hR
      have ha' : upd H' l (.lst [.ref a]) a = none := by rw [upd_ne nl]; exact ha
      obtain ⟨F2, s2, z4, r4⟩ := kept_exc z3 (a := a) c2 c3 c4 (c5.imp id fun ⟨y, k1, k2, k3, k4, k5, k6⟩ => by
        have k5' : upd B.R l (.lst []) y = none := k5
        have ny : y ≠ l := fun e => by rw [e, upd_same] at k5'; cases k5'
        rw [upd_ne ny] at k5'
        exact ⟨y, k1, by rw [upd_ne ny]; exact k2, k3, k4, k5', k6⟩) ha'
      exact p F2 (.ref a) _ (s.trans s2) (z4.laidO hb) r4
    · exact p.elim
open LamX in
theorem pd_caught {q : Str} {g c P C0 : Addr} {k ki k2 : Nat} {pg : Arguments} {sg : Scope} {dV kV doc pm cdv ct oc : Value} {an od : Option Addr} {osl : Array (Option Value)} {ns : List Str} {me : EM}
    {params : Arguments} {body : Expr} {scope : Scope} {p lpos pos p1 p2 p3 q1 q2 q3 q4 q5 q6 q7 q8 q9 q10 q11 r1 r2 r3 r4 r5 r6 r7 r8 r9 : Pos} {x : Str}
    (hx : ∀ n ∈ ns, ∀ C, G.mg n = some (.ref C) → PySem.W.exmOne X.K (.ref C) (.ref C0) = some true) (hmk : X.mg "MakeError" = some (.ref C0)) (hline : (q6.endLine == q8.line) = true)
    (hg : Gl X x) (hm : X.mg x = some (.ref g)) (hk : PySem.W.keepIn X.K (.ref g) = true)
    (lk : X.K.lookup g = some ⟨oc, od, .func (PySem.W.fnOf x x pg [.Assign [.Name "found" p1] (.List [] p2) p3,
      .Try [.Expr (.Call (.Name "action" q1) [] [] q2) q3] [.ExceptHandler (some (.Name "MakeError" q4)) (some "error") [.Expr (.Call (.Attribute (.Name "found" q5) "append" q6) [.Name "error" q7] [] q8) q9] q10] [] [] q11,
      .Return (some (.IfExp (.Compare (.Name "found" r1) [.NotEq] [.List [] r2] r3) (.Subscript (.Name "found" r4) (.Constant (.int 0) ki r5) r6) (.Constant .none k2 r7) r8)) r9] sg dV kV doc pm an cdv ct), osl⟩)
    (hcg : PySem.W.codeIn X.K cdv x = true)
    (hb : ∀ us : List Value, us.length = 1 → bindArgs (PySem.W.fnOf x x pg [.Assign [.Name "found" p1] (.List [] p2) p3,
      .Try [.Expr (.Call (.Name "action" q1) [] [] q2) q3] [.ExceptHandler (some (.Name "MakeError" q4)) (some "error") [.Expr (.Call (.Attribute (.Name "found" q5) "append" q6) [.Name "error" q7] [] q8) q9] q10] [] [] q11,
      .Return (some (.IfExp (.Compare (.Name "found" r1) [.NotEq] [.List [] r2] r3) (.Subscript (.Name "found" r4) (.Constant (.int 0) ki r5) r6) (.Constant .none k2 r7) r8)) r9] sg dV kV doc pm an cdv ct) ⟨us, []⟩ = pure ((["action"] : List Str).zip us))
    (Sg : FnScope ["action", "found", "error"] ["action"] sg) (hs : CaughtS sg)
    (TB : TabB X.base X.mg c P) (hcode : X.env.code = .ref c) (hmT : (P, X.env.qual ++ "<lambda>") ∈ G.T) (hu : ∀ p ∈ G.T, p.1 = P → p.2 = X.env.qual ++ "<lambda>") (hr : Room (k + 2) X.A) (L : LamS X.env.scope scope) (hdef : defaultsOf params X.env = ([], []))
    (hbind : ∀ (q : Str) (cl : List (Str × Addr)) (pm cv ctv : Value), bindArgs (PySem.W.kla_fn "<lambda>" q params body scope cl pm cv ctv) ⟨[], []⟩ = pure [])
    (hbody : ∀ (A : Around) (outer : List Env) (s : Shared) (H : Hp) (E : XK) (f c' : Addr), Room k (A.deeper (lamEnv X scope s.heap.objs.size f c')) → Takes (lamCx X A outer s H E scope f c') (fun cls d _ H => E cls d H) → PE (lamCx X A outer s H E scope f c') body (ET G (fun cls d _ H => E cls d H) me))
    (hdb : (x == ("__debug__" : Str)) = false := by decide) :
    PE X (.Call (.Name x p) [.Lambda params body scope lpos] [] pos) (ET G W (eCaught ns me)) :=
  (pe_lamcallS (T := G.T) (TT := TTc X.K C0) (t := fun E => ET G (fun cls d _ H => E cls d H) me) (Ng := ["action", "found", "error"]) (a := "action") (p := p) (pos := pos) (lpos := lpos) hg hm hk lk hcg (.all hb) Sg rfl (.inl hs.s0) (caught_gives hs hmk hr hline)
    TB hcode hmT hu hr L hdef hbind (fun A outer s H E f c' h => hbody A outer s H E f c' h (takes_of rfl rfl rfl rfl)) hdb).imp fun _ _ _ h => caught_of hx h
end
end PD

set_option Elab.async false
set_option linter.all false
set_option maxRecDepth 100000
set_option maxHeartbeats 4000000
/-! PD15: the law's state, read and written. -/
namespace PD
open PySem PySem.Spec PyProof.Rows L2

def isSt (e : List Sl) (i : Nat) : Bool := match e[i]? with
  | some (.frz .st) => true
  | _ => false
def eSt (i : Nat) (f : DS → Int) : EM := fun e S => if isSt e i = true then .ok (.val (.int (f S))) e S else .bad
def sSt (i : Nat) (up : DS → Int → DS) (m : EM) : SM := m.thenS fun a => fun e S => match dat e a with
  | some (.int j) => if isSt e i = true then .nx e (up S j) else .bad
  | _ => .bad
def ePopG (i : Nat) : EM := fun e S => if isSt e i = true then match S.great with
  | g :: gs => .ok (.val (.int g)) e { S with great := gs }
  | [] => .bad else .bad
def bGreat (i : Nat) : M Bool := fun e S => if isSt e i = true then .ok (!S.great.isEmpty) e S else .bad
section
variable {X : Cx} {G : Gc} {W : WX} {B : Bs} {F F' : Hp} {env : List Sl} {S S' : DS} {σ : L2.St} {H H' : Hp} {i : Nat} {x key : Str} {pos pos' p0 p2 : Pos} {k : Nat} {e : Expr} {ma : EM}
/-- a shared object changes -/
theorem Zok.shSet (z : Zok G B F env S σ H) {a : Addr} {o o' : HO} (ha : G.sh S a = some o) (ha' : G.sh S' a = some o') (hb : ∀ b, b ≠ a → G.sh S' b = G.sh S b) (hn : ∀ φ, o ≠ .ext φ := by intro _ e; cases e) :
    Zok G B F env S' σ (upd H a o') := by
  have hF : F a = none := (z.dis a (some_ne ha)).1
  have hH : H a = some o := z.exS a o ha
  refine z.step (Same.refl F) (fun b u e => ?_) (fun b u e => ?_) (fun b u e h _ => ?_) (fun b h1 h2 => absurd h2 h1) ((z.tb.upd (fun ps w => G.shT S a ps (by rw [ha, ← hH, w])) (fun φ w => hn φ (by rw [hH] at w; exact Option.some.inj w)) (fun ps w => G.shT S' a ps (by rw [ha', w]))).of z.tb.noF z.tb.noR)
  · have n : b ≠ a := fun w => by subst w; rw [hF] at e; cases e
    rw [upd_ne n]; exact z.exF b u e
  · by_cases n : b = a
    · subst n; rw [upd_same]; rw [ha'] at e; exact e
    · rw [upd_ne n]; rw [hb b n] at e; exact z.exS b u e
  · have n : b ≠ a := fun w => by subst w; rw [ha] at h; cases h
    rw [upd_ne n]; exact e
theorem isSt_on (z : Zok G B F env S σ H) (h : isSt env i = true) : G.on = true := by
  unfold isSt at h
  cases e : env[i]? with
  | none => rw [e] at h; cases h
  | some sl =>
    rw [e] at h
    cases sl with
    | frz d =>
      cases d with
      | st => obtain ⟨v, h1, h2⟩ := z.slot i _ e; exact h2.2
      | _ => cases h
    | _ => cases h
theorem isSt_ok (z : Zok G B F env S σ H) (h : isSt env i = true) : σ[i]? = some (some (.ref G.p)) ∧ H G.p = some (.dK (stD G.g G.c S)) := by
  have on := isSt_on z h
  unfold isSt at h
  cases e : env[i]? with
  | none => rw [e] at h; cases h
  | some sl =>
    rw [e] at h
    cases sl with
    | frz d =>
      cases d with
      | st =>
        obtain ⟨v, h1, h2⟩ := z.slot i _ e
        have h2 : v = V.ref G.p := h2.1
        subst h2
        refine ⟨?_, z.exS _ _ (G.shp S on)⟩
        cases q : σ[i]? with
        | none => rw [q] at h1; cases h1
        | some o => rw [q] at h1; exact congrArg some h1
      | _ => cases h
    | _ => cases h
theorem pd_stGet {f : DS → Int} (hu : X.A.units + 1 < cLine) (hx : PE X (.Name x p0) (tVar i)) (hf : ∀ g c S, valV (stD g c S) (.inr key) = some (.int (f S)))
    (hs : PlainIx (.Constant (.str key) k p2) := by intro _ _; rfl) : PE X (.Subscript (.Name x p0) (.Constant (.str key) k p2) pos) (ET G W (eSt i f)) :=
  (pe_ix (ix_dict hu) hx pe_str hs).imp fun σ H Q ⟨B, F, env, S, z, p⟩ => by
    unfold eSt at p
    split at p
    · rename_i h
      obtain ⟨h1, h2⟩ := isSt_ok z h
      exact ⟨_, h1, G.p, _, rfl, by rw [← hf G.g G.c S]; exact DGet.k (k := .inr key) h2, p F _ H (Same.refl F) z rfl⟩
    · exact p.elim
theorem pds_stSet {up : DS → Int → DS} (hu : X.A.units + 1 < cLine) (hv : PE X e (ET G W ma)) (hx : PE X (.Name x p0) (tVar i)) (hp : ∀ g c S j, putK (stD g c S) (.inr key) (.int j) = stD g c (up S j)) (hg : ∀ S j, (up S j).great = S.great ∧ (up S j).cells = S.cells)
    (ha : ∀ v, assign (.Subscript (.Name x p0) (.Constant (.str key) k p2) pos') X.env v = (do
      let ov ← holding [v] (eval (.Name x p0) X.env)
      let iv ← holding [v, ov] (eval (.Constant (.str key) k p2) X.env)
      standAt pos'
      holding [v, ov, iv] (setItem ov iv v)
      release [v, ov, iv] []) := by intro _; rfl) (hs : swapsWithSole [.Subscript (.Name x p0) (.Constant (.str key) k p2) pos'] e pos.line X.env = pure false := by rfl) (hw : swappedStores [.Subscript (.Name x p0) (.Constant (.str key) k p2) pos'] e X.env = pure none := by rfl)
    (h1 : (assignEach [.Subscript (.Name x p0) (.Constant (.str key) k p2) pos'] X.env).map (·.2) = [assign (.Subscript (.Name x p0) (.Constant (.str key) k p2) pos') X.env] := by rfl) :
    PS X (.Assign [.Subscript (.Name x p0) (.Constant (.str key) k p2) pos'] e pos) (ST G W (sSt i up ma)) := (ps_asg hv (pg_sub hx pe_str (set_dict hu) ha) hs hw h1).imp fun D σ H ⟨B, F, env, S, z, p⟩ => by
  refine ⟨B, F, env, S, z, (Pst.bindS (r := ma env S) p).imp ?_⟩
  rintro v H1 ⟨F1, env1, S1, ev, s1, z1, q1, p1⟩
  cases e1 : dat env1 ev with
  | none => simp only [e1] at p1; exact p1.elim
  | some d =>
    rw [e1] at p1
    cases d with
    | int j =>
      simp only at p1
      split at p1
      · rename_i h
        obtain ⟨h2, h3⟩ := isSt_ok z1 h
        have hv := (dat_rep z1 q1 e1).rep z1.exF
        have hv : v = _ := hv
        subst hv
        refine ⟨_, h2, G.p, _, rfl, DPut.k (k := .inr key) h3 (by show 4 < sizeLine; rw [sizeLine_eq]; decide), ?_⟩
        rw [hp]
        obtain ⟨g1, g2⟩ := hg S1 j
        refine p1 F1 σ _ (Same.refl F1) (z1.shSet (S' := up S1 j) (a := G.p) (G.shp S1 (isSt_on z1 h)) (G.shp _ (isSt_on z1 h)) fun b hb => ?_)
        unfold Gc.sh
        rw [if_neg (on_f (isSt_on z1 h)), if_neg (on_f (isSt_on z1 h)), if_neg hb, if_neg hb, g1, g2]
      · exact p1.elim
    | _ => exact p1.elim
theorem pe_stRef (hu : X.A.units + 1 < cLine) (hx : PE X (.Name x p0) (tVar i)) (hs : PlainIx (.Constant (.str key) k p2) := by intro _ _; rfl) :
    PE X (.Subscript (.Name x p0) (.Constant (.str key) k p2) pos) (tOp (fun x y H Q => ∃ a v, x = .ref a ∧ DGet H a y (some v) ∧ Q v H) (tVar i) (tC (.str key))) := pe_ix (ix_dict hu) hx pe_str hs
theorem pd_popG {apos cpos : Pos} {j : Nat} {p3 : Pos} (hu : X.A.units + 1 < cLine) (hx : PE X (.Name x p0) (tVar i))
    (hbase : attributeBase (.Subscript (.Name x p0) (.Constant (.str "great") k p2) pos) "pop" X.env (eval (.Subscript (.Name x p0) (.Constant (.str "great") k p2) pos) X.env) = eval (.Subscript (.Name x p0) (.Constant (.str "great") k p2) pos) X.env := by rfl)
    (hline : (apos.endLine == cpos.line) = true := by rfl) :
    PE X (.Call (.Attribute (.Subscript (.Name x p0) (.Constant (.str "great") k p2) pos) "pop" apos) [.Constant (.int 0) j p3] [] cpos) (ET G W (ePopG i)) :=
  (pe_bm PySem.F.plainAttrs_list PySem.F.slot_list_pop PySem.F.type_list_pop mt_popAt (pe_stRef hu hx) (pa_cons pe_int pa_nil) hbase rfl hline).imp fun σ H Q ⟨B, F, env, S, z, p⟩ => by
    unfold ePopG at p
    split at p
    · rename_i h
      obtain ⟨h1, h2⟩ := isSt_ok z h
      cases e : S.great with
      | nil => rw [e] at p; exact p.elim
      | cons g gs =>
        rw [e] at p
        have on := isSt_on z h
        have hg := z.exS _ _ (G.shg S on)
        refine ⟨_, h1, G.p, .ref G.g, rfl, DGet.k (k := .inr "great") h2, .inl ⟨rfl, S.great.map V.int, .inl (.inl hg)⟩, G.g, S.great.map V.int, 0, 0, .int g, rfl, rfl, hg, by decide, by decide, ?_, by rw [e]; rfl, ?_⟩
        · rw [e]; simp [seqIndex?]
        · have z2 := z.shSet (S' := { S with great := gs }) (a := G.g) (G.shg S on) (G.shg _ on) fun b hb => by
            unfold Gc.sh stD
            rw [if_neg (on_f on), if_neg (on_f on)]
            by_cases e1 : b = G.p
            · rw [if_pos e1, if_pos e1]
            · rw [if_neg e1, if_neg e1, if_neg hb, if_neg hb]
          have e2 : ((S.great.map V.int).eraseIdx 0) = gs.map V.int := by rw [e]; rfl
          rw [e2]
          exact p F _ _ (Same.refl F) z2 rfl
    · exact p.elim
theorem pdt_great {p3 : Pos} (hu : X.A.units + 64 < cLine) (hx : PE X (.Name x p0) (tVar i)) :
    PT X (.Compare (.Subscript (.Name x p0) (.Constant (.str "great") k p2) pos) [.NotEq] [.List [] p3] pos') (BT G W (bGreat i)) :=
  (pt_cmpR (op_neL hu) (pe_stRef (by omega) hx) (pe_lst pa_nil) rfl).imp fun σ H Q ⟨B, F, env, S, z, p⟩ => by
    unfold bGreat at p
    split at p
    · rename_i h
      obtain ⟨h1, h2⟩ := isSt_ok z h
      have on := isSt_on z h
      have hg := z.exS _ _ (G.shg S on)
      refine ⟨_, h1, G.p, .ref G.g, rfl, DGet.k (k := .inr "great") h2, by show 0 ≤ sizeLine; exact Nat.zero_le _, fun b hb => ?_⟩
      have nb : G.g ≠ b := ne_of_none hg hb
      refine ⟨G.g, b, S.great.map V.int, rfl, rfl, .inl (.inl (by rw [upd_ne nb]; exact hg)), .inl (.inl upd_same), _, rfl, ?_⟩
      rw [show (S.great.map V.int).isEmpty = S.great.isEmpty by cases S.great <;> rfl]
      exact p F _ (Same.refl F) (z.laidO hb)
    · exact p.elim
/-! ### for cell in state["cells"] -/
def cellL (t : Nat) (cs0 : List Int) (bd : SM) : List Int → SM
  | [] => sSkip
  | d :: ds => fun e S => match bd (e.set t (.frz (.int d))) S with
    | .nx e2 S2 => if S2.cells = cs0 then cellL t cs0 bd ds e2 S2 else .bad
    | _ => .bad
def sCells (i t : Nat) (bd : SM) : SM := fun e S => if isSt e i = true then cellL t S.cells bd S.cells e S else .bad
theorem cell_get {cs : List Int} {j : Nat} {x : V} (h : (cs.map V.int)[j]? = some x) : ∃ d, cs[j]? = some d ∧ x = .int d := by
  rw [List.getElem?_map] at h
  cases e : cs[j]? with
  | none => rw [e] at h; cases h
  | some d => rw [e] at h; cases h; exact ⟨d, rfl, rfl⟩
theorem pds_cells {t : Nat} {y : Str} {py : Pos} {body : List Stmt} {m : SM} (hp : PassesOwn (model X.prog X.w) X.A X.env X.xe) (hc : X.calm = true) (hu : X.A.units + 1 < cLine) (hx : PE X (.Name x p0) (tVar i)) (hN : X.N.Nodup) (hi : X.N[t]? = some y) (hy : Loc X.env.scope y) (hb : PSs X body (ST G W m))
    (hs : ∀ z, foldedSetIterable (.Subscript (.Name x p0) (.Constant (.str "cells") k p2) pos) X.env z = pure z := by intro _; rfl) (hf : X.fn y = true ∨ X.env.scope.names.lookup y = some .local := by first | exact .inl rfl | exact .inr rfl | assumption) :
    PS X (.For (.Name y py) (.Subscript (.Name x p0) (.Constant (.str "cells") k p2) pos) body [] pos') (ST G W (sCells i t m)) :=
  (ps_for hp hc (pi_list (pe_stRef hu hx)) (pg_name hN hi hy hf) hb hs).imp fun D σ H ⟨B, F, env, S, z, p⟩ => by
  unfold sCells at p
  split at p
  · rename_i h
    obtain ⟨h1, h2⟩ := isSt_ok z h
    have on := isSt_on z h
    have hcs := z.exS _ _ (G.shc S on)
    refine ⟨_, h1, G.p, .ref G.c, rfl, DGet.k (k := .inr "cells") h2, G.c, rfl, ⟨S.cells.map V.int, .inl (.inl hcs)⟩, ?_⟩
    refine ⟨fun j n σ H => n = S.cells.length - j ∧ j ≤ S.cells.length ∧ ∃ F2 env2 S2, Same F F2 ∧ Zok G B F2 env2 S2 σ H ∧ S2.cells = S.cells ∧ PstS G B W F2 D (cellL t S.cells m (S.cells.drop j) env2 S2), ⟨_, rfl, Nat.zero_le _, F, env, S, Same.refl F, z, rfl, p⟩, ?_⟩
    rintro j n σ2 H2 ⟨rfl, hj, F2, env2, S2, s2, z2, c2, p2⟩
    have hq : SqL X.K H2 G.c (S.cells.map V.int) := by rw [← c2]; exact .inl (.inl (z2.exS _ _ (G.shc S2 on)))
    by_cases hlt : j < S.cells.length
    · refine .inr ⟨⟨_, .int S.cells[j], hq, by rw [List.getElem?_map, List.getElem?_eq_getElem hlt]; rfl⟩, fun σ' H' => ∃ F3 env3 S3, Same F2 F3 ∧ Zok G B F3 env3 S3 σ' H' ∧ S3.cells = S.cells ∧ PstS G B W F3 D (cellL t S.cells m (S.cells.drop (j + 1)) env3 S3), fun σ' H' ⟨F3, env3, S3, s3, z3, c3, p3⟩ => ⟨S.cells.length - (j + 1), by omega, rfl, hlt, F3, env3, S3, s2.trans s3, z3, c3, p3⟩, fun v H' yv => ?_⟩
      obtain ⟨rfl, yv⟩ := yv
      obtain ⟨d, hd, rfl⟩ := cell_get (yv _ hq)
      rw [drop_get hd] at p2
      have p2 : PstS G B W F2 D (match m (env2.set t (.frz (.int d))) S2 with
        | .nx e2 S3 => if S3.cells = S.cells then cellL t S.cells m (S.cells.drop (j + 1)) e2 S3 else .bad
        | _ => .bad) := p2
      refine ⟨B, F2, _, S2, z2.store t (sl := .frz (.int d)) ⟨_, rfl, rfl⟩ (fun _ _ e => by cases e), ?_⟩
      cases e : m (env2.set t (.frz (.int d))) S2 with
      | nx e2 S3 =>
        rw [e] at p2
        simp only at p2
        split at p2
        · rename_i c3
          exact fun F' σ' H' s z' => ⟨F', e2, S3, s, z', c3, PstS.mono (r := cellL t S.cells m (S.cells.drop (j + 1)) e2 S3) p2 s⟩
        · exact p2.elim
      | _ => rw [e] at p2; exact p2.elim
    · have e : j = S.cells.length := by omega
      subst e
      refine .inl ⟨⟨_, hq, by simp⟩, ?_⟩
      rw [List.drop_length] at p2
      exact p2 F2 σ2 H2 (Same.refl F2) z2
  · exact p.elim
end
end PD

set_option Elab.async false
set_option linter.all false
set_option maxRecDepth 100000
set_option maxHeartbeats 4000000
/-! PD16: what never runs, chained comparisons, zip, constants, pairs of new lists, errors and their classes, defs by their facts. -/
namespace PD
open PySem PySem.Spec PyProof.Rows L2

def eBad : EM := fun _ _ => .bad
def bBad : M Bool := fun _ _ => .bad
def iBad : M (List D) := fun _ _ => .bad
section
variable {X : Cx} {G : Gc} {W : WX} {B : Bs} {F F' : Hp} {env : List Sl} {S S' : DS} {σ : L2.St} {H H' : Hp} {a b c e : Expr} {ma mb mc : EM} {mr : M (List EV)} {pos : Pos}
theorem pd_bad : PE X e (ET G W eBad) := ⟨fun _ _ _ _ _ _ ⟨_, _, _, _, _, p⟩ => p.elim⟩
theorem pdt_bad : PT X e (BT G W bBad) := ⟨fun _ _ _ _ _ _ ⟨_, _, _, _, _, p⟩ => p.elim⟩
theorem takes0 : Takes X W0 := fun _ _ ⟨_, _, _, _, _, _, _, _, _, _, _, _, _, _, _, _, w⟩ => w.elim
/-! ### a < b < c -/
def eChain (f g : D → D → Option EV) (ma mb mc : EM) : EM := ma.then fun a => mb.then fun b => fun e S => match dat e a.look, dat e b.look with
  | some x, some y => match f x y with
    | some (.val (.bl true)) => (mc.then fun c => fun e S => match dat e b.look, dat e c with
      | some y, some z => ofO (g y z) e S
      | _, _ => .bad) e S
    | some (.val (.bl false)) => .ok (.val (.bl false)) e S
    | _ => .bad
  | _, _ => .bad
theorem chain_of {f g : D → D → Option EV} {r r' : R2} (hd : OpD G f r) (hd' : OpD G g r') {σ : L2.St} {H : Hp} {Q : VK} (h : ET G W (eChain f g ma mb mc) σ H Q) : tChain r r' (ET G W ma) (ET G W mb) (ET G W mc) σ H Q := by
  obtain ⟨B, F, env, S, z, p⟩ := h
  refine ⟨B, F, env, S, z, (Pst.bind (r := ma env S) p).imp ?_⟩
  rintro x H1 ⟨F1, env1, S1, xa, s1, z1, q1, p1⟩
  obtain ⟨F2, s2, z2, q2, nf⟩ := look_ok z1 q1
  refine ⟨B, F2, env1, S1, z2, (Pst.bind (r := mb env1 S1) (p1.mono s2)).imp ?_⟩
  rintro y H2 ⟨F3, env3, S3, xb, s3, z3, q3, p3⟩
  obtain ⟨F4, s4, z4, q4, nf4⟩ := look_ok z3 q3
  have q5 := q2.keep (env' := env3) (S' := S3) (H' := H2) nf (s3.trans s4)
  have p4 := p3.mono s4
  cases e1 : dat env3 xa.look with
  | none => simp only [e1] at p4; exact p4.elim
  | some dx =>
    cases e2 : dat env3 xb.look with
    | none => simp only [e1, e2] at p4; exact p4.elim
    | some dy =>
      simp only [e1, e2] at p4
      cases e3 : f dx dy with
      | none => simp only [e3] at p4; exact p4.elim
      | some ev =>
        rw [e3] at p4
        refine hd B F4 env3 S3 σ H2 x y dx dy ev _ z4 (dat_rep z4 q5 e1) (dat_rep z4 q4 e2) e3 ?_
        cases ev with
        | val d =>
          cases d with
          | bl k =>
            intro F5 v H5 s5 z5 hv
            have hv : v = V.bl k := hv
            subst hv
            refine ⟨k, rfl, ?_⟩
            cases k with
            | false => exact p4 F5 _ H5 s5 z5 rfl
            | true =>
              simp only [if_true]
              simp only at p4
              refine ⟨B, F5, env3, S3, z5, (Pst.bind (r := mc env3 S3) (p4.mono s5)).imp ?_⟩
              rintro w H6 ⟨F6, env6, S6, xc, s6, z6, q6, p6⟩
              have q7 := q4.keep (env' := env6) (S' := S6) (H' := H6) nf4 (s5.trans s6)
              cases e6 : dat env6 xb.look with
              | none => simp only [e6] at p6; exact p6.elim
              | some dy' =>
                cases e7 : dat env6 xc with
                | none => simp only [e6, e7] at p6; exact p6.elim
                | some dz =>
                  simp only [e6, e7] at p6
                  cases e8 : g dy' dz with
                  | none => simp only [e8, ofO] at p6; exact p6.elim
                  | some ev =>
                    simp only [e8, ofO] at p6
                    exact hd' B F6 env6 S6 σ H6 y w dy' dz ev Q z6 (dat_rep z6 q7 e6) (dat_rep z6 q6 e7) e8 p6
          | _ => exact p4.elim
        | fresh d => exact p4.elim
        | slot i => exact p4.elim
theorem pd_chain {op op' : CmpOp} {f g : D → D → Option EV} {r r' : R2} (ho : OpR X (compareOp op) r) (hd : OpD G f r) (ho' : OpR X (compareOp op') r') (hd' : OpD G g r') (ha : PE X a (ET G W ma)) (hb : PE X b (ET G W mb)) (hc : PE X c (ET G W mc))
    (hm : lastMarks [op, op'] [b, c] = false := by rfl) : PE X (.Compare a [op, op'] [b, c] pos) (ET G W (eChain f g ma mb mc)) :=
  (pe_chain ho ho' ha hb hc hm).imp fun _ _ _ h => chain_of hd hd' h
theorem pdt_chain {op op' : CmpOp} {f g : D → D → Option EV} {r r' : R2} (ho : OpR X (compareOp op) r) (hd : OpD G f r) (ho' : OpR X (compareOp op') r') (hd' : OpD G g r') (ha : PE X a (ET G W ma)) (hb : PE X b (ET G W mb)) (hc : PE X c (ET G W mc))
    (hm : lastMarks [op, op'] [b, c] = false := by rfl) : PT X (.Compare a [op, op'] [b, c] pos) (BT G W (bVal (eChain f g ma mb mc))) :=
  (pt_chain ho ho' ha hb hc hm).imp fun σ H Q h => by
    obtain ⟨c, h⟩ := (⟨(), tB_of (fun _ _ _ h => chain_of hd hd' h) h⟩ : ∃ _ : Unit, tChain r r' (ET G W ma) (ET G W mb) (ET G W mc) σ H fun x H1 => ∃ c, x = .bl c ∧ Q c H1)
    exact h
/-! ### zip -/
def zipD : List D → List D → List D
  | x :: xs, y :: ys => .tup [x, y] :: zipD xs ys
  | _, _ => []
theorem zipD_len : ∀ xs ys : List D, (zipD xs ys).length = min xs.length ys.length
  | [], ys => by simp [zipD]
  | x :: xs, [] => by simp [zipD]
  | x :: xs, y :: ys => by simp [zipD, zipD_len xs ys]
theorem zipD_get : ∀ {xs ys : List D} {i : Nat} {x y : D}, xs[i]? = some x → ys[i]? = some y → (zipD xs ys)[i]? = some (.tup [x, y])
  | [], _, _, _, _, h, _ => by simp at h
  | _ :: _, [], _, _, _, _, h => by simp at h
  | a :: xs, b :: ys, 0, x, y, h1, h2 => by simp at h1 h2; subst h1 h2; rfl
  | a :: xs, b :: ys, i + 1, x, y, h1, h2 => by
    simp at h1 h2
    simpa [zipD] using zipD_get h1 h2
def iZip (m : M (List EV)) : M (List D) := m.then fun xs => fun e S => match takes e xs with
  | some ([.lst a, .lst b], e') => .ok (zipD a b) e' S
  | some ([.tup a, .tup b], e') => .ok (zipD a b) e' S
  | _ => .bad
theorem wlk_zipL {x y : Addr} {ds es : List D} {vs ws : List V} {K : PySem.W.Frag} (h1 : Rd F x (.lst vs)) (r1 : Reps G F ds vs) (h2 : Rd F y (.lst ws)) (r2 : Reps G F es ws) : Wlk2 G F (Itz K x y) (zipD ds es) := by
  have l1 := r1.length; have l2 := r2.length
  have q1 : ∀ H, Same F H → SqL K H x vs := fun H s => .inl (rd_mono s h1)
  have q2 : ∀ H, Same F H → SqL K H y ws := fun H s => .inl (rd_mono s h2)
  refine ⟨fun i H hi s => ?_, fun H s => ⟨vs, ws, q1 H s, q2 H s, by rw [zipD_len]; omega⟩, fun i H v H' hi s yl => ?_⟩
  · rw [zipD_len] at hi
    exact ⟨vs, ws, vs[i], ws[i], q1 H s, q2 H s, by simp [show i < vs.length by omega], by simp [show i < ws.length by omega]⟩
  · obtain ⟨T, a, b, rfl, hT, rfl, f1, f2⟩ := yl
    obtain ⟨d, e1, e2⟩ := r1.getV (f1 _ (q1 H s))
    obtain ⟨d', e3, e4⟩ := r2.getV (f2 _ (q2 H s))
    exact ⟨T, a, b, d, d', rfl, hT, rfl, zipD_get e1 e3, e2, e4⟩
theorem wlk_zipT {x y : Addr} {ds es : List D} {vs ws : List V} (h1 : TupAt G.K F x vs) (r1 : Reps G F ds vs) (h2 : TupAt G.K F y ws) (r2 : Reps G F es ws) : Wlk2 G F (RZ.ItzT G.K x y) (zipD ds es) := by
  have l1 := r1.length; have l2 := r2.length
  have q1 : ∀ H, Same F H → SqT G.K H x vs := fun H s => (h1.mono s).sq
  have q2 : ∀ H, Same F H → SqT G.K H y ws := fun H s => (h2.mono s).sq
  refine ⟨fun i H hi s => ?_, fun H s => ⟨vs, ws, q1 H s, q2 H s, by rw [zipD_len]; omega⟩, fun i H v H' hi s yl => ?_⟩
  · rw [zipD_len] at hi
    exact ⟨vs, ws, vs[i], ws[i], q1 H s, q2 H s, by simp [show i < vs.length by omega], by simp [show i < ws.length by omega]⟩
  · obtain ⟨T, a, b, rfl, hT, rfl, f1, f2⟩ := yl
    obtain ⟨d, e1, e2⟩ := r1.getV (f1 _ (q1 H s))
    obtain ⟨d', e3, e4⟩ := r2.getV (f2 _ (q2 H s))
    exact ⟨T, a, b, d, d', rfl, hT, rfl, zipD_get e1 e3, e2, e4⟩
theorem pdi_zip {e2 : Expr} {p tpos : Pos} {elts : List Expr} {kk : Nat} (hK : X.K = G.K) (hg : Gl X "zip") (hm : X.mg "zip" = none) (ha : PA X [e, e2] (AT G W mr)) (hs : starEach [e, e2] X.env = (false, eval e X.env) :: starEach [e2] X.env := by rfl) (hpl : (backTo pos (starEach [e2] X.env)).any (·.1) = false := by rfl) :
    PI X (.Tuple elts kk tpos) (.Call (.Name "zip" p) [e, e2] [] pos) (IT2 G W (iZip mr)) := (RZ.pi_zipA hg hm ha hs hpl).imp fun σ H R ⟨B, F, env, S, z, p⟩ => by
  refine ⟨B, F, env, S, z, ?_⟩
  unfold iZip M.then at p
  cases q : mr env S with
  | bad => rw [q] at p; exact p.elim
  | err x env1 S1 => rw [q] at p; exact p
  | ok xs env1 S1 =>
    rw [q] at p
    intro F1 vs H1 s1 z1 q1
    simp only [RR.bind] at p
    cases e1 : takes env1 xs with
    | none => simp only [e1] at p; exact p.elim
    | some r =>
      obtain ⟨ds, env2⟩ := r
      simp only [e1] at p
      obtain ⟨F2, s2, z2, r2⟩ := takes_ok z1 q1 e1
      split at p
      · rename_i hx a b env3 heq
        simp only [Option.some.injEq, Prod.mk.injEq] at heq
        obtain ⟨rfl, rfl⟩ := heq
        obtain ⟨v, _, rfl, ⟨x, vs1, rfl, t1, t2⟩, w, _, rfl, ⟨y, ws1, rfl, t3, t4⟩, rfl⟩ := r2
        exact ⟨x, y, vs1, ws1, rfl, .inl ⟨.inl (rd_mono z2.exF t1), .inl (rd_mono z2.exF t3), p F2 _ H1 (s1.trans s2) z2 (wlk_zipL t1 t2 t3 t4)⟩⟩
      · rename_i hx a b env3 heq
        simp only [Option.some.injEq, Prod.mk.injEq] at heq
        obtain ⟨rfl, rfl⟩ := heq
        obtain ⟨v, _, rfl, ⟨x, vs1, rfl, t1, t2⟩, w, _, rfl, ⟨y, ws1, rfl, t3, t4⟩, rfl⟩ := r2
        refine ⟨x, y, vs1, ws1, rfl, .inr ⟨hK ▸ (t1.mono z2.exF).sq, hK ▸ (t3.mono z2.exF).sq, ?_⟩⟩
        rw [hK]
        exact p F2 _ H1 (s1.trans s2) z2 (wlk_zipT t1 t2 t3 t4)
      · exact p.elim
/-! ### -x -/
def opNeg : D → Option EV
  | .int i => some (.val (.int (-i)))
  | _ => none
theorem und_neg : UnD G opNeg (rU fun i => .int (-i)) := by
  intro B F env S σ H x dx ev Q z hx e p
  unfold opNeg at e
  split at e
  · cases e
    exact ⟨_, hx.rep z.exF, p F _ H (Same.refl F) z rfl⟩
  · cases e
end
/-! ### constants of the module -/
def CnOk (K : PySem.W.Frag) (mg : Str → Option Value) (x : Str) (d : D) : Prop := ∃ u v, mg x = some u ∧ RelV v u ∧ ∀ (G : Gc) (F : Hp), G.K = K → Rep G F d v
mutual
def conB (K : PySem.W.Frag) : D → Value → Bool
  | .non, .none => true
  | .bl b, .bool c => b == c
  | .int i, .int j _ => decide (i = j)
  | .str s, .str t _ => decide (s = t)
  | .tup ds, .ref a => match K.lookup a with
    | some ⟨.type c, none, .seq its _, _⟩ => decide (c = "tuple") && (decide (its.size ≤ 100000) && conBs K ds its.toList)
    | _ => false
  | _, _ => false
def conBs (K : PySem.W.Frag) : List D → List Value → Bool
  | [], [] => true
  | d :: ds, u :: us => conB K d u && conBs K ds us
  | _, _ => false
end
def cnB (K : PySem.W.Frag) (x : Str) (d : D) : Bool := match PySem.W.nsIn K mainGlobals x with
  | some (some u) => conB K d u
  | _ => false
mutual
theorem conB_ok {K : PySem.W.Frag} : ∀ {d : D} {u : Value}, conB K d u = true → ∃ v, RelV v u ∧ ∀ (G : Gc) (F : Hp), G.K = K → Rep G F d v
  | .non, .none, _ => ⟨.non, rfl, fun _ _ _ => rfl⟩
  | .bl b, .bool c, h => by
    unfold conB at h
    have e : b = c := eq_of_beq h
    subst e
    exact ⟨.bl b, rfl, fun _ _ _ => rfl⟩
  | .int i, .int j t, h => by
    unfold conB at h
    have e := of_decide_eq_true h
    subst e
    exact ⟨.int i, ⟨t, rfl⟩, fun _ _ _ => rfl⟩
  | .str s, .str s' t, h => by
    unfold conB at h
    have e := of_decide_eq_true h
    subst e
    exact ⟨.str s, ⟨t, rfl⟩, fun _ _ _ => rfl⟩
  | .tup ds, .ref a, h => by
    unfold conB at h
    split at h
    · rename_i c its n sl hl
      simp only [Bool.and_eq_true, decide_eq_true_eq] at h
      obtain ⟨h1, h2, h3⟩ := h
      obtain ⟨vs, r1, r2⟩ := conBs_ok h3
      refine ⟨.ref a, rfl, fun G F hG => ⟨a, vs, rfl, .inr ⟨_, its, n, hG ▸ hl, by rw [h1], rfl, rfl, by rw [sizeLine_eq]; omega, r1⟩, r2 G F hG⟩⟩
    · cases h
theorem conBs_ok {K : PySem.W.Frag} : ∀ {ds : List D} {us : List Value}, conBs K ds us = true → ∃ vs, Vals vs us ∧ ∀ (G : Gc) (F : Hp), G.K = K → Reps G F ds vs
  | [], [], _ => ⟨[], .nil, fun _ _ _ => rfl⟩
  | d :: ds, u :: us, h => by
    unfold conBs at h
    simp only [Bool.and_eq_true] at h
    obtain ⟨v, r1, r2⟩ := conB_ok h.1
    obtain ⟨vs, r3, r4⟩ := conBs_ok h.2
    exact ⟨v :: vs, .cons r1 r3, fun G F hG => ⟨v, vs, rfl, r2 G F hG, r4 G F hG⟩⟩
end
theorem cnB_ok {K : PySem.W.Frag} {h : Heap} {mg : Str → Option Value} (X : K.In h) (Gn : h.Ns mainGlobals mg) {x : Str} {d : D} (c : cnB K x d = true) : CnOk K mg x d := by
  unfold cnB at c
  cases e : PySem.W.nsIn K mainGlobals x with
  | none => rw [e] at c; cases c
  | some o =>
    rw [e] at c
    cases o with
    | none => cases c
    | some u =>
      obtain ⟨v, r1, r2⟩ := conB_ok c
      exact ⟨u, v, PySem.W.mg_of X Gn e, r1, r2⟩
section
variable {X : Cx} {G : Gc} {W : WX} {pos : Pos} {x : Str} {d : D}
theorem pd_cn (hK : X.K = G.K) (c : CnOk X.K X.mg x d) (hg : Gl X x) (hdb : (x == ("__debug__" : Str)) = false := by decide) : PE X (.Name x pos) (ET G W (eC d)) := by
  obtain ⟨u, v, h1, h2, h3⟩ := c
  exact pd_const (pe_glob hg h1 h2 hdb) fun F => h3 G F hK.symm
theorem pd_cls {C : Addr} (hmg : G.mg = X.mg) (h1 : X.mg x = some (.ref C)) (hg : Gl X x) (hdb : (x == ("__debug__" : Str)) = false := by decide) : PE X (.Name x pos) (ET G W (eC (.cls x))) :=
  pd_const (pe_glob (v := .ref C) hg h1 rfl hdb) fun F => ⟨C, rfl, by rw [hmg]; exact h1⟩
end
end PD

set_option Elab.async false
set_option linter.all false
set_option maxRecDepth 100000
set_option maxHeartbeats 4000000
/-! PD17: pairs of new lists; errors and their classes; calls by names. -/
namespace PD
open PySem PySem.Spec PyProof.Rows L2

def putE (i : Nat) (e : List Sl) : EV → Option (List Sl)
  | .val d => some (e.set i (.frz d))
  | .fresh d => some (e.set i (.own d))
  | .slot _ => none
/-- a, b = x, y: what is new stays one's own -/
def sParF (i j : Nat) (ma mb : EM) : SM := ma.thenS fun a => mb.thenS fun b => fun e S => match putE i e a with
  | some e1 => match putE j e1 b with
    | some e2 => .nx e2 S
    | none => .bad
  | none => .bad
section
variable {X : Cx} {G : Gc} {W : WX} {B : Bs} {F F' : Hp} {env env' : List Sl} {S S' : DS} {σ : L2.St} {H H' : Hp} {a b c e : Expr} {ma mb mc : EM} {mr : M (List EV)} {pos : Pos}
/-- a thing that no one has is put aside -/
theorem Zok.asideX (z : Zok G B F env S σ H) {p : Addr} {o : HO} (hp : H p = some o) (hF : F p = none) (hS : G.sh S p = none) (hn : NoOwn env σ p) (ho : ∀ ps, o ≠ .tbl ps) : Zok G (B.add p o) F env S σ H := by
  refine ⟨z.exF, z.exS, fun a u e => ?_, z.ex0, fun a h1 h2 => ?_, fun a h => ?_, z.tb.of z.tb.noF (fun a ps e => ?_), z.len, fun i sl h => ?_, z.sep⟩
  · have e : upd B.R p o a = some u := e
    by_cases ha : a = p
    · subst ha; rw [upd_same] at e; cases e; exact hp
    · rw [upd_ne ha] at e; exact z.exR a u e
  · show upd B.R p o a = none
    have ha : a ≠ p := fun e => by subst e; exact h1 hF
    rw [upd_ne ha]; exact z.new a h1 h2
  · have ha : a ≠ p := fun e => by subst e; exact h hS
    refine ⟨(z.dis a h).1, ?_⟩
    show upd B.R p o a = none
    rw [upd_ne ha]; exact (z.dis a h).2
  · have e : upd B.R p o a = some (.tbl ps) := e
    by_cases ha : a = p
    · subst ha; rw [upd_same] at e; cases e; exact ho ps rfl
    · rw [upd_ne ha] at e; exact z.tb.noR a ps e
  · have q := z.slot i sl h
    cases sl with
    | un => trivial
    | frz d => exact q
    | own d =>
      obtain ⟨a, q1, q2, q3, q4, q5⟩ := q
      have ha : a ≠ p := fun e => by subst e; exact hn i d h q1
      refine ⟨a, q1, q2, q3, ?_, q5⟩
      show upd B.R p o a = none
      rw [upd_ne ha]; exact q4
theorem add_none {p a : Addr} {o : HO} (h : (B.add p o).R a = none) : a ≠ p ∧ B.R a = none := by
  have h : upd B.R p o a = none := h
  have ha : a ≠ p := fun e => by subst e; rw [upd_same] at h; cases h
  rw [upd_ne ha] at h
  exact ⟨ha, h⟩
theorem EVok.off {p : Addr} {o : HO} {v : V} {ev : EV} (h : EVok G (B.add p o) F env S σ H v ev) : EVok G B F env S σ H v ev := by
  cases ev with
  | val d => exact h
  | slot i => exact h
  | fresh d =>
    obtain ⟨a, e, h1, h2, h3, h4, h5⟩ := h
    exact ⟨a, e, h1, h2, (add_none h3).2, h4, h5⟩
theorem ErrOk.off {p : Addr} {o : HO} {x : Xn} (h : ErrOk G B W F x env S) (h0 : B.F0 p = none) (hR : B.R p = none) : ErrE G (B.add p o) W F σ x env S := fun F' H' cls d s z q => by
  obtain ⟨C, vs, c1, c2, c3, c4, c5⟩ := q
  exact h F' σ H' cls d s (z.asideOff h0 hR) ⟨C, vs, c1, c2, c3, c4, c5.imp id fun ⟨y, k1, k2, k3, k4, k5, k6⟩ => ⟨y, k1, k2, k3, k4, (add_none k5).2, k6⟩⟩
/-- both are stored -/
theorem par_end {D' : Ends} {i j : Nat} {xa xb : EV} {v w : V} (z : Zok G B F env S σ H) (ha : EVok G B F env S σ H v xa) (hb : EVok G B F env S σ H w xb) (hne : ∀ d d', xa = .fresh d → xb = .fresh d' → v ≠ w)
    (p : PstS G B W F D' (match putE i env xa with
      | some e1 => match putE j e1 xb with
        | some e2 => SR.nx e2 S
        | none => .bad
      | none => .bad)) : D'.nx ((σ.set i (some v)).set j (some w)) H := by
  have st : ∀ {k : Nat} {F : Hp} {env env1 : List Sl} {σ : L2.St} {v : V} {ev : EV}, Zok G B F env S σ H → EVok G B F env S σ H v ev → putE k env ev = some env1 → Zok G B F env1 S (σ.set k (some v)) H := fun {k F env env1 σ v ev} z h e => by
    cases ev with
    | val d => cases e; exact z.store k (sl := .frz d) ⟨v, rfl, h⟩ (fun _ _ e => by cases e)
    | fresh d =>
      cases e
      obtain ⟨a, rfl, h1, h2, h3, h4, o⟩ := h
      exact z.store k (sl := .own d) ⟨a, rfl, h1, h2, h3, o⟩ fun d' a' _ e => by cases e; exact h4
    | slot k => cases e
  cases e1 : putE i env xa with
  | none => simp only [e1] at p; exact p.elim
  | some env1 =>
    simp only [e1] at p
    cases e2 : putE j env1 xb with
    | none => simp only [e2] at p; exact p.elim
    | some env2 =>
      simp only [e2] at p
      have z1 := st z ha e1
      have hb1 : EVok G B F env1 S (σ.set i (some v)) H w xb := by
        cases xb with
        | val d => exact hb
        | slot k => cases e2
        | fresh d =>
          obtain ⟨y, rfl, h1, h2, h3, h4, o⟩ := hb
          refine ⟨y, rfl, h1, h2, h3, fun i' d' g1 g2 => ?_, o⟩
          rw [join_set] at g2
          by_cases hi : i = i' ∧ i < σ.length
          · rw [if_pos hi] at g2
            cases xa with
            | val d0 =>
              cases e1
              obtain ⟨rfl, _⟩ := hi
              by_cases hl : i < env.length
              · rw [List.getElem?_set_self hl] at g1; cases g1
              · rw [List.getElem?_eq_none (by simpa using hl)] at g1; cases g1
            | fresh d0 => exact hne _ _ rfl rfl (Option.some.inj g2)
            | slot k => cases e1
          · rw [if_neg hi] at g2
            have hi2 : i ≠ i' := fun e => by
              subst e
              have hl : ¬ i < σ.length := fun h => hi ⟨rfl, h⟩
              rw [List.getElem?_eq_none (by omega)] at g2; cases g2
            cases xa with
            | val d0 => cases e1; rw [List.getElem?_set_ne hi2] at g1; exact h4 i' d' g1 g2
            | fresh d0 => cases e1; rw [List.getElem?_set_ne hi2] at g1; exact h4 i' d' g1 g2
            | slot k => cases e1
      exact p F _ H (Same.refl F) (st z1 hb1 e2)
theorem pds_parF {i j : Nat} {x y : Str} {px py pt : Pos} {kt k2 pt2} (hc : X.calm = true) (hN : X.N.Nodup) (hi : X.N[i]? = some x) (hj : X.N[j]? = some y) (hij : i ≠ j)
    (hx : X.env.scope.names.lookup x = some .local) (hy : X.env.scope.names.lookup y = some .local) (ha : PE X a (ET G W ma)) (hb : PE X b (ET G W mb))
    (hw : swappedStores [.Tuple [.Name x px, .Name y py] kt pt] (.Tuple [a, b] k2 pt2) X.env = pure (some [x, y]))
    (hs : swapsWithSole [.Tuple [.Name x px, .Name y py] kt pt] (.Tuple [a, b] k2 pt2) pos.line X.env = pure false := by rfl)
    (hs1 : starEach [a, b] X.env = (false, eval a X.env) :: starEach [b] X.env := by rfl) (hs2 : starEach [b] X.env = (false, eval b X.env) :: starEach [] X.env := by rfl) :
    PS X (.Assign [.Tuple [.Name x px, .Name y py] kt pt] (.Tuple [a, b] k2 pt2) pos) (ST G W (sParF i j ma mb)) := (ps_par hc hN hi hj hij hx hy (pa_cons ha (pa_cons hb pa_nil hs2) hs1) hw hs).imp fun D σ H ⟨B, F, env, S, z, p⟩ => by
  refine ⟨B, F, env, S, z, (Pst.bindS (r := ma env S) p).imp ?_⟩
  rintro v H1 ⟨F1, env1, S1, xa, s1, z1, q1, p1⟩
  have nofresh : (∀ d, xa ≠ .fresh d) → ∃ B F env S, Zok G B F env S σ H1 ∧ Pst G B W F σ (fun w H2 => ∃ v' w', [v, w] = [v', w'] ∧ D.nx ((σ.set i (some v')).set j (some w')) H2) (mb env S) := fun nf => by
    refine ⟨B, F1, env1, S1, z1, (Pst.bindS (r := mb env1 S1) p1).imp ?_⟩
    rintro w H2 ⟨F2, env2, S2, xb, s2, z2, q2, p2⟩
    exact ⟨v, w, rfl, par_end z2 (q1.keep nf s2) q2 (fun d d' e => absurd e (nf d)) p2⟩
  cases xa with
  | val d => exact nofresh fun _ e => by cases e
  | slot k => exact nofresh fun _ e => by cases e
  | fresh d =>
    obtain ⟨y, rfl, h1, h2, h3, h4, o⟩ := q1
    obtain ⟨ob, ho, hob⟩ := o.objs
    have h0 : B.F0 y = none := free_of z1.ex0 h1
    have hob2 : ∀ ps, ob ≠ .tbl ps := fun ps e => by subst e; rcases hob with ⟨_, e⟩ | ⟨_, e⟩ <;> cases e
    have z2 := z1.asideX ho h1 h2 h4 hob2
    refine ⟨_, F1, env1, S1, z2, ?_⟩
    cases e : mb env1 S1 with
    | bad =>
      have p2 : PstS G B W F1 D ((mb env1 S1).toS fun b => fun e S => match putE i e (.fresh d) with
        | some e1 => match putE j e1 b with
          | some e2 => .nx e2 S
          | none => .bad
        | none => .bad) := p1
      rw [e] at p2; exact p2.elim
    | err x e2 S2 =>
      have p2 : PstS G B W F1 D ((mb env1 S1).toS fun b => fun e S => match putE i e (.fresh d) with
        | some e1 => match putE j e1 b with
          | some e2 => .nx e2 S
          | none => .bad
        | none => .bad) := p1
      rw [e] at p2
      exact ErrOk.off p2 h0 h3
    | ok xb e2 S2 =>
      have p2 : PstS G B W F1 D ((mb env1 S1).toS fun b => fun e S => match putE i e (.fresh d) with
        | some e1 => match putE j e1 b with
          | some e2 => .nx e2 S
          | none => .bad
        | none => .bad) := p1
      rw [e] at p2
      intro F2 w H2 s2 z3 q3
      have z4 := z3.asideOff h0 h3
      have hy : EVok G B F2 e2 S2 σ H2 (.ref y) (.fresh d) := ⟨y, rfl, z3.asideF h0, z3.asideS, h3, z3.asideN, o.step s2 fun o' ho' => by rw [ho] at ho'; cases ho'; exact z3.asideAt⟩
      refine ⟨.ref y, w, rfl, par_end z4 hy q3.off (fun d1 d2 e1 e2 => ?_) (PstS.mono (r := match putE i e2 (.fresh d) with
        | some e1 => match putE j e1 xb with
          | some e2 => .nx e2 S2
          | none => .bad
        | none => .bad) p2 s2)⟩
      subst e2
      obtain ⟨y2, rfl, _, _, g3, _⟩ := q3
      intro e5
      cases e5
      exact (add_none g3).1 rfl
end
end PD

set_option Elab.async false
set_option linter.all false
set_option maxRecDepth 100000
set_option maxHeartbeats 4000000
/-! PD18: errors and their classes; defs by their facts, their calls. -/
namespace PD
open PySem PySem.Spec PyProof.Rows L2

/-- what is known of the error classes ns: each derives from MakeError itself -/
structure IsF (K : PySem.W.Frag) (mg : Str → Option Value) (ns : List Str) : Prop where
  cls : ∀ n, ns.contains n = true → ∃ C, mg n = some (.ref C) ∧ ExcC K C
  kit : ∀ n m, ns.contains n = true → ns.contains m = true → ∀ C C', mg n = some (.ref C) → mg m = some (.ref C') → PySem.W.kitOne K (.ref C) (.ref C') = some (n == m || m == "MakeError")
  kitT : ∀ (t : Ty) (m : Str), ns.contains m = true → ∀ C, mg m = some (.ref C) → PySem.W.kitOne K (.type t.nm) (.ref C) = some false
def isiX (ns : List Str) : List D → Option EV
  | [.exc n _, .cls m] => if (ns.contains n && ns.contains m) = true then some (.val (.bl (n == m || m == "MakeError"))) else none
  | [d, .cls m] => match tyD d with
    | some _ => if ns.contains m = true then some (.val (.bl false)) else none
    | none => none
  | ds => isiF ds
/-- isinstance of a tracked error -/
def rIsX (K : PySem.W.Frag) : List V → Hp → VK → Prop := fun xs H Q => ∃ (a C C' : Addr) (d : Option Addr) (b : Bool), xs = [.ref a, .ref C'] ∧ H a = some (ExcH C d a) ∧ (∀ x, d = some x → ∃ fs, H x = some (.xd fs)) ∧ ExcC K C ∧ PySem.W.kitOne K (.ref C) (.ref C') = some b ∧ Q (.bl b) H
section
variable {X : Cx} {G : Gc} {W : WX} {B : Bs} {F F' : Hp} {env env' : List Sl} {S S' : DS} {σ : L2.St} {H H' : Hp}
theorem call_isX : CallR X (.builtin "isinstance") (rIsX X.K) := by
  intro pins s σ H xs us Q I r h
  obtain ⟨a, C, C', d, b, rfl, h1, h2, h3, h4, q⟩ := h
  obtain ⟨u1, u2, rfl, r1, r2⟩ := vals2 r
  cases (show u1 = Value.ref a from r1)
  cases (show u2 = Value.ref C' from r2)
  obtain ⟨⟨oe, vs, e1, e2, e3⟩, _, _⟩ := (show ObjOk X.prog X.w H s.heap a (ExcH C d a) from I.hok a _ h1)
  obtain ⟨oc, od, dt, sl⟩ := oe
  obtain ⟨e4, e5⟩ := e2
  simp only at e3 e4 e5
  subst e3 e4 e5
  have hcl : (PySem.W.clsIn X.K C).isSome = true := by obtain ⟨cd, hc, _⟩ := PySem.W.any_some h3.hd; rw [hc]; rfl
  cases od with
  | none =>
    have J : PySem.W.InstAt s.heap a ⟨.ref C, none, .fields vs, sl⟩ C none := ⟨e1, rfl, rfl, trivial⟩
    exact PySem.W.kia_one (PySem.W.kitx_exc (od := none) hcl h3.hg h3.hk h3.hs h3.ha h3.hn h3.ht h3.hm) I.kIn J h4 (fun z => nomatch z) fun tk => ⟨.bl b, H, I.tok tk, rfl, q⟩
  | some x =>
    obtain ⟨fs, hx⟩ := h2 x rfl
    obtain ⟨mA, ⟨o, es, ep, k1, _⟩, _⟩ := (show ObjOk X.prog X.w H s.heap x (.xd fs) from I.hok x _ hx)
    have J : PySem.W.InstAt s.heap a ⟨.ref C, some x, .fields vs, sl⟩ C (some o) := ⟨e1, rfl, rfl, k1⟩
    exact PySem.W.kia_one (PySem.W.kitx_exc (od := some o) hcl h3.hg h3.hk h3.hs h3.ha h3.hn h3.ht h3.hm) I.kIn J h4 (fun z => nomatch z) fun tk => ⟨.bl b, H, I.tok tk, rfl, q⟩
def rIsiX (K : PySem.W.Frag) : List V → Hp → VK → Prop := fun xs H Q => rIsiA K xs H Q ∨ rIsX K xs H Q
theorem call_isiX : CallR X (.builtin "isinstance") (rIsiX X.K) := call_isiA.or call_isX
theorem rep_exc {n : Str} {fs : List D} {v : V} (h : RepL G F H (.exc n fs) v) : ∃ a C d vs, v = .ref a ∧ G.mg n = some (.ref C) ∧ F a = some (ExcH C d a) ∧ Reps G F fs vs ∧ vs.length = (fieldsOf n).length ∧
      (fs = [] ∧ d = none ∨ ∃ x, d = some x ∧ F x = some (.xd ((fieldsOf n).zip vs))) := by
  rcases h with h | ⟨a, h1, h⟩
  · exact h
  · exact h.elim
theorem rep_cls {m : Str} {v : V} (h : RepL G F H (.cls m) v) : ∃ C, v = .ref C ∧ G.mg m = some (.ref C) := by
  rcases h with h | ⟨a, h1, h⟩
  · exact h
  · exact h.elim
theorem fun_isiX {ns : List Str} (hK : X.K = G.K) (hmg : G.mg = X.mg) (f : IsF X.K X.mg ns) : FunD G (isiX ns) (rIsiX X.K) := by
  intro B F env S σ H vs ds ev Q z r h p
  unfold isiX at h
  split at h
  · rename_i n fs m
    split at h
    · rename_i hc
      rw [Bool.and_eq_true] at hc
      cases h
      obtain ⟨v, w, rfl, r1, r2⟩ := r.two
      obtain ⟨a, C, d, ws, rfl, c1, c2, c3, c4, c5⟩ := rep_exc r1
      obtain ⟨C', rfl, c6⟩ := rep_cls r2
      rw [hmg] at c1 c6
      obtain ⟨C2, g1, g2⟩ := f.cls n hc.1
      rw [c1] at g1; cases g1
      refine .inr ⟨a, C, C', d, _, rfl, z.exF _ _ c2, fun x e => ?_, g2, f.kit n m hc.1 hc.2 C C' c1 c6, p.here z rfl⟩
      rcases c5 with ⟨_, c5⟩ | ⟨y, c5, c7⟩
      · rw [c5] at e; cases e
      · rw [c5] at e; cases e; exact ⟨_, z.exF _ _ c7⟩
    · cases h
  · rename_i d m hne
    split at h
    · rename_i t ht
      split at h
      · rename_i hc
        cases h
        obtain ⟨v, w, rfl, r1, r2⟩ := r.two
        obtain ⟨C', rfl, c6⟩ := rep_cls r2
        rw [hmg] at c6
        exact .inl (.inl ⟨v, _, _, _, _, rfl, .own C', hK ▸ tyX_of r1 z.exF ht, f.kitT t m hc C' c6, p.here z rfl⟩)
      · cases h
    · cases h
  · exact .inl (fun_isi hK B F env S σ H vs _ ev Q z r h p)
end
/-! ### the facts as a Bool -/
def excCB (K : PySem.W.Frag) (D : Addr) : Bool :=
  He.eqO (PySem.W.findIn K (.ref D) "__getattribute__") (some (some (.builtin "BaseException.__getattribute__"))) && (He.eqO (PySem.W.findIn K (.ref D) "__getattr__") (some none) && (decide (PySem.W.subIn K (.ref D) (.type "BaseException") = some true) &&
  (PySem.W.hasDictIn K D && (He.eqO (PySem.W.findIn K (.ref D) "__class__") (some (some (.builtin "object.__class__"))) && (He.eqO (PySem.W.specialIn K (.builtin "object.__class__") "__get__") (some (some (.builtin "getset_descriptor.__get__"))) &&
  (decide (PySem.W.takesIn K (.builtin "object.__class__") = some true) && decide (PySem.W.mroIn K D (.type "object") = some true)))))))
theorem excCB_ok {K : PySem.W.Frag} {D : Addr} (h : excCB K D = true) : ExcC K D := by
  unfold excCB at h
  simp only [Bool.and_eq_true, decide_eq_true_eq] at h
  obtain ⟨h1, h2, h3, h4, h5, h6, h7, h8⟩ := h
  exact ⟨He.eqO_ok h1, He.eqO_ok h2, h3, h4, He.eqO_ok h5, He.eqO_ok h6, h7, h8⟩
def tys : List Ty := [.non, .bool, .int, .str, .tuple, .list, .dict]
def gloB (K : PySem.W.Frag) (x : Str) : Bool := He.eqO (PySem.W.nsIn K mainGlobals x) (some (some (.ref (He.ga K x))))
def isFB (K : PySem.W.Frag) (ns : List Str) : Bool := ns.all fun n => gloB K n && (excCB K (He.ga K n) && ((ns.all fun m => decide (PySem.W.kitOne K (.ref (He.ga K n)) (.ref (He.ga K m)) = some (n == m || m == "MakeError"))) &&
  (tys.all fun t => decide (PySem.W.kitOne K (.type t.nm) (.ref (He.ga K n)) = some false))))
theorem isFB_ok {K : PySem.W.Frag} {h : Heap} {mg : Str → Option Value} (X : K.In h) (Gn : h.Ns mainGlobals mg) {ns : List Str} (c : isFB K ns = true) : IsF K mg ns := by
  have at_ : ∀ n, ns.contains n = true → mg n = some (.ref (He.ga K n)) ∧ excCB K (He.ga K n) = true ∧ (∀ m, ns.contains m = true → PySem.W.kitOne K (.ref (He.ga K n)) (.ref (He.ga K m)) = some (n == m || m == "MakeError")) ∧ ∀ t ∈ tys, PySem.W.kitOne K (.type t.nm) (.ref (He.ga K n)) = some false := fun n hn => by
    have c1 := List.all_eq_true.mp c n (by simpa using hn)
    simp only [Bool.and_eq_true] at c1
    obtain ⟨h1, h2, h3, h4⟩ := c1
    exact ⟨PySem.W.mg_of X Gn (He.eqO_ok h1), h2, fun m hm => of_decide_eq_true (List.all_eq_true.mp h3 m (by simpa using hm)), fun t ht => of_decide_eq_true (List.all_eq_true.mp h4 t ht)⟩
  refine ⟨fun n hn => ⟨_, (at_ n hn).1, excCB_ok (at_ n hn).2.1⟩, fun n m hn hm C C' e1 e2 => ?_, fun t m hm C e => ?_⟩
  · rw [(at_ n hn).1] at e1; cases e1
    rw [(at_ m hm).1] at e2; cases e2
    exact (at_ n hn).2.2.1 m hm
  · rw [(at_ m hm).1] at e; cases e
    exact (at_ m hm).2.2.2 t (by cases t <;> simp [tys])
/-- an error class without fields may be raised -/
def xcB (K : PySem.W.Frag) (x : Str) : Bool := gloB K x && (He.Fa.exc x).ok K
theorem xcB_ok {K : PySem.W.Frag} {h : Heap} {mg : Str → Option Value} (X : K.In h) (Gn : h.Ns mainGlobals mg) {x : Str} (c : xcB K x = true) : ∃ C, mg x = some (.ref C) ∧ XcOk K C := by
  unfold xcB at c
  rw [Bool.and_eq_true] at c
  obtain ⟨h1, h2, h3, h4⟩ := He.exc_ok c.2
  exact ⟨_, PySem.W.mg_of X Gn (He.eqO_ok c.1), ⟨_, _, _, _, PySem.F.excBase_ValueError, h1⟩, h2, h3, h4⟩
/-- what is raised of the classes ns is caught as MakeError -/
def CtF (K : PySem.W.Frag) (mg : Str → Option Value) (ns : List Str) : Prop := ∃ C0, mg "MakeError" = some (.ref C0) ∧ ∀ n ∈ ns, ∀ C, mg n = some (.ref C) → PySem.W.exmOne K (.ref C) (.ref C0) = some true
def ctB (K : PySem.W.Frag) (ns : List Str) : Bool := gloB K "MakeError" && ns.all fun n => gloB K n && decide (PySem.W.exmOne K (.ref (He.ga K n)) (.ref (He.ga K "MakeError")) = some true)
theorem ctB_ok {K : PySem.W.Frag} {h : Heap} {mg : Str → Option Value} (X : K.In h) (Gn : h.Ns mainGlobals mg) {ns : List Str} (c : ctB K ns = true) : CtF K mg ns := by
  unfold ctB at c
  rw [Bool.and_eq_true] at c
  refine ⟨_, PySem.W.mg_of X Gn (He.eqO_ok c.1), fun n hn C e => ?_⟩
  have c1 := List.all_eq_true.mp c.2 n hn
  rw [Bool.and_eq_true] at c1
  rw [PySem.W.mg_of X Gn (He.eqO_ok c1.1)] at e
  cases e
  exact of_decide_eq_true c1.2
end PD

set_option Elab.async false
set_option linter.all false
set_option maxRecDepth 100000
set_option maxHeartbeats 4000000
/-! PD19: defs by names, their calls; the law's begin. -/
namespace PD
open PySem PySem.Spec PyProof.Rows L2

/-- what holds in the body of a def, wherever it is called -/
abbrev InFnD (P : Program) (w : World) (K : PySem.W.Frag) (mg : Str → Option Value) (base : Heap) (N : List Str) (qual : Str) (scope : Scope) (f : Addr) (cd : Value) (k : Nat) (p : Cx → WX → Prop) : Prop :=
  ∀ (A : Around) (outer : List Env) (s : Shared) (H : Hp) (E : XK), Room k (A.deeper (envOfC qual scope s.heap.objs.size f cd)) → Takes (cxOf (L2.CX P w) P w K mg base N qual scope f cd A outer s H E) (fun cls d _ H => E cls d H) →
    p (cxOf (L2.CX P w) P w K mg base N qual scope f cd A outer s H E) (fun cls d _ H => E cls d H)
/-- a def x of the top: it keeps the promise m at level k, it is called with as many values as ps -/
structure Dn (P : Program) (w : World) (K : PySem.W.Frag) (mg : Str → Option Value) (base : Heap) (T : List (Addr × Str)) (k : Nat) (x : Str) (ps : List Str) (m : FnS) : Prop where
  ex : ∃ f fd, FnOk P w K mg base (L2.CX P w) k f fd ps (spOf K mg T ps.length m) ∧ mg x = some (.ref f) ∧ PySem.W.keepIn K (.ref f) = true ∧ Binds K fd ps []
  ln : ∀ ds S, ds.length ≠ ps.length → m ds S = .bad
/-- .. called with keywords ks, g puts the values in the parameters' order -/
structure DnK (P : Program) (w : World) (K : PySem.W.Frag) (mg : Str → Option Value) (base : Heap) (T : List (Addr × Str)) (k : Nat) (x : Str) (ps ks : List Str) (g : {α : Type} → List α → List α → List α) (m : FnS) : Prop where
  ex : ∃ f fd, FnOk P w K mg base (L2.CX P w) k f fd ps (spOf K mg T ps.length m) ∧ mg x = some (.ref f) ∧ PySem.W.keepIn K (.ref f) = true ∧ KBinds K fd ps ks g g
  ln : ∀ ds S, ds.length ≠ ps.length → m ds S = .bad
  rel : ∀ {G : Gc} {F : Hp} {ds es : List D} {vs ws : List V}, Reps G F ds vs → Reps G F es ws → Reps G F (g ds es) (g vs ws)
/-- .. called with the last ones lacking: dds, the defaults -/
structure DnD (P : Program) (w : World) (K : PySem.W.Frag) (mg : Str → Option Value) (base : Heap) (T : List (Addr × Str)) (k : Nat) (x : Str) (ps : List Str) (dds : List D) (m : FnS) : Prop where
  ex : ∃ f fd dvs ds, FnOk P w K mg base (L2.CX P w) k f fd ps (spOf K mg T ps.length m) ∧ mg x = some (.ref f) ∧ PySem.W.keepIn K (.ref f) = true ∧ Binds K fd ps ds ∧ Vals dvs ds ∧ ∀ (G : Gc) (F : Hp), G.K = K → Reps G F dds dvs
  ln : ∀ ds S, ds.length ≠ ps.length → m ds S = .bad
/-- m with more values behind -/
def withD (dds : List D) (m : FnS) : FnS := fun ds S => m (ds ++ dds) S
/-- m with values in another order -/
def withK (n : Nat) (g : {α : Type} → List α → List α → List α) (m : FnS) : FnS := fun ds S => m (g (ds.take n) (ds.drop n)) S
section
variable {P : Program} {w : World} {K : PySem.W.Frag} {mg : Str → Option Value} {base : Heap} {x qual : Str} {params : Arguments} {body : List Stmt} {scope : Scope} {dvs : List V} {kws : List (Str × V)} {f : Addr} {fd : FuncData} {N ps : List Str} {k : Nat} {m : SM}
theorem fn_pdD {T : List (Addr × Str)} (F : L2.FunD K x qual params body scope dvs kws f fd) (S : FnScope N ps scope) (hl : ps.length ≤ N.length)
    (hb : ∀ (G : Gc) (cd : Value), G.K = K → G.mg = mg → G.T = T → fd.code = cd → InFnD P w K mg base N qual scope f cd k fun X W => PSs X body (ST G W m)) :
    FnOk P w K mg base (L2.CX P w) (k + 1) f fd ps (spOf K mg T ps.length (fnRun ps.length N.length m)) := by
  obtain ⟨oc, od, dV, kV, doc, pm, an, cdv, ct, osl, rfl, lk, hcd, _, _⟩ := F.ex
  refine fn_of lk hcd S (fun vs H Q E h => h.1) fun A outer s H vs Q E hr hsp => ?_
  obtain ⟨h0, G, Fh, ds, Sd, hK, hmg, hT, h1, h2, h3, ht, h4, h5⟩ := hsp
  exact ⟨_, hb G cdv hK hmg hT rfl A outer s H E hr (takes_of rfl rfl rfl rfl), pstS_of h1 h2 h3 ht h4 (by omega) h5⟩
/-- a promise that is never asked -/
theorem fn_never {T : List (Addr × Str)} (F : L2.FunD K x qual params body scope dvs kws f fd) (S : FnScope N ps scope) : FnOk P w K mg base (L2.CX P w) (k + 1) f fd ps (spOf K mg T ps.length (fun _ _ => .bad)) := by
  obtain ⟨oc, od, dV, kV, doc, pm, an, cdv, ct, osl, rfl, lk, hcd, _, _⟩ := F.ex
  refine fn_of lk hcd S (fun vs H Q E h => h.1) fun A outer s H vs Q E hr hsp => ?_
  obtain ⟨h0, G, Fh, ds, Sd, hK, hmg, hT, h1, h2, h3, ht, h4, h5⟩ := hsp
  exact h5.elim
end
section
variable {X : Cx} {G : Gc} {W : WX} {k : Nat} {ps ks : List Str} {x : Str} {p pos : Pos} {e : Expr} {es : List Expr} {mr mk : M (List EV)} {m : FnS}
theorem pd_calld (hK : G.K = X.K) (hmg : G.mg = X.mg) (d : Dn X.prog X.w X.K X.mg X.base G.T k x ps m) (tk : Takes X W) (hr : Room k X.A) (hg : Gl X x)
    (ha : PA X (e :: es) (AT G W mr)) (hdb : (x == ("__debug__" : Str)) = false := by decide) (he : starEach (e :: es) X.env = (false, eval e X.env) :: starEach es X.env := by rfl) (hpl : (backTo pos (starEach es X.env)).any (·.1) = false := by rfl) :
    PE X (.Call (.Name x p) (e :: es) [] pos) (ET G W (eCall m mr)) := by
  obtain ⟨f, fd, h1, h2, h3, h4⟩ := d.ex
  exact pd_call hK hmg h1 d.ln tk hr hg h2 h3 h4 ha hdb he hpl
/-! #### what a call's promise asks -/
theorem call_at (hK : G.K = X.K) (hmg : G.mg = X.mg) {σ : L2.St} {H1 : Hp} {Q : VK} {np : Nat} {B : Bs} {F2 : Hp} {env2 : List Sl} {S1 : DS} {ds : List D} {vs : List V} (hm : ∀ ds S, ds.length ≠ np → m ds S = .bad)
    (z2 : Zok G B F2 env2 S1 σ H1) (r2 : Reps G F2 ds vs) (p1 : Pst G B W F2 σ Q (match m ds S1 with
      | .ok d fr S' => .ok (if fr = true then .fresh d else .val d) env2 S'
      | .err x S' => .err x env2 S'
      | .bad => .bad)) : spOf X.K X.mg G.T np m vs H1 Q (WE W σ) := by
  have hn : ds.length = np := by
    by_cases h : ds.length = np
    · exact h
    · rw [hm ds S1 h] at p1; exact p1.elim
  refine ⟨by rw [← r2.length]; exact hn, G, F2, ds, S1, hK, hmg, rfl, z2.exF, z2.exS, fun a h => (z2.dis a h).1, z2.tb.of z2.tb.noF (fun _ _ e => by cases e), r2, ?_⟩
  cases e2 : m ds S1 with
  | bad => simp only [e2] at p1; exact p1.elim
  | ok d fr S2 =>
    simp only [e2] at p1
    intro F3 H3 v af hv
    have z3 := z2.step (S' := S2) af.fF af.fH af.sH af.keep af.new (af.tb.of af.tb.noF z2.tb.noR)
    refine p1 F3 v H3 af.fF z3 ?_
    cases fr with
    | false =>
      rw [if_neg Bool.false_ne_true] at hv ⊢
      exact hv
    | true =>
      rw [if_pos rfl] at hv ⊢
      obtain ⟨a, rfl, h1, h2, h3, h4⟩ := hv
      refine ⟨a, rfl, h1, h2, z2.noR h3, fun i d k1 k2 => ?_, h4⟩
      obtain ⟨b, j1, _, _, _, j5⟩ := z2.slot i _ k1
      obtain ⟨o, ho, _⟩ := j5.objs
      rw [k2] at j1; cases j1
      exact noTbl_free h3 ho fun ps w => j5.noT ps (by rw [ho, w])
  | err y S2 =>
    simp only [e2] at p1
    intro F3 H3 cls dd af ⟨C, ws, c1, c2, c3, c4, c5⟩
    have z3 := z2.step (S' := S2) af.fF af.fH af.sH af.keep af.new (af.tb.of af.tb.noF z2.tb.noR)
    refine p1 F3 H3 cls dd af.fF z3 ⟨C, ws, c1, c2, c3, c4, c5.imp id fun ⟨a, k1, k2, k3, k4, k5⟩ => ⟨a, k1, k2, k3, k4, z2.noR k5, fun i d l1 l2 => ?_⟩⟩
    obtain ⟨b, j1, _, _, _, j5⟩ := z2.slot i _ l1
    obtain ⟨o, ho, _⟩ := j5.objs
    rw [l2] at j1; cases j1
    exact noTbl_free k5 ho fun ps w => j5.noT ps (by rw [ho, w])
/-- f(e, ..), the last ones lack -/
theorem pd_callDf {dds : List D} (hK : G.K = X.K) (hmg : G.mg = X.mg) (d : DnD X.prog X.w X.K X.mg X.base G.T k x ps dds m) (tk : Takes X W) (hr : Room k X.A) (hg : Gl X x)
    (ha : PA X (e :: es) (AT G W mr)) (hdb : (x == ("__debug__" : Str)) = false := by decide) (he : starEach (e :: es) X.env = (false, eval e X.env) :: starEach es X.env := by rfl) (hpl : (backTo pos (starEach es X.env)).any (·.1) = false := by rfl) :
    PE X (.Call (.Name x p) (e :: es) [] pos) (ET G W (eCall (withD dds m) mr)) := by
  obtain ⟨f, fd, dvs, us, h1, h2, h3, h4, h5, h6⟩ := d.ex
  refine (pe_callSD (E := WE W) h1 hr hg h2 h3 h4 h5 (fun σ => passAt tk σ) ha hdb he hpl).imp fun σ H Q ⟨B, F, env, S, z, p⟩ => ?_
  refine ⟨B, F, env, S, z, (PstA.bind (r := mr env S) p).imp ?_⟩
  rintro vs H1 ⟨F1, env1, S1, xs, s1, z1, q1, p1⟩
  cases e1 : takes env1 xs with
  | none => simp only [e1] at p1; exact p1.elim
  | some q =>
    obtain ⟨ds, env2⟩ := q
    simp only [e1] at p1
    obtain ⟨F2, s2, z2, r2⟩ := takes_ok z1 q1 e1
    exact call_at hK hmg d.ln z2 (r2.append (h6 G F2 hK)) (Pst.mono (r := match m (ds ++ dds) S1 with
      | .ok d fr S' => .ok (if fr = true then .fresh d else .val d) env2 S'
      | .err x S' => .err x env2 S'
      | .bad => .bad) p1 s2)
/-! #### keywords -/
theorem _root_.L2.PK.imp {X : Cx} {es : List Keyword} {t t' : TA} (h : PK X es t) (k : ∀ σ H Q, t' σ H Q → t σ H Q) : PK X es t' := ⟨fun pos pins s σ H Q I hq => h.run pos pins s σ H Q I (k σ H Q hq)⟩
theorem pdk_nil : PK X [] (AT G W aNil) := pk_nil.imp fun σ H Q ⟨B, F, env, S, z, p⟩ => p F [] H (Same.refl F) z trivial
theorem pdk_cons {nm : Option Str} {kpos : Pos} {kws : List Keyword} {ma : EM} (ha : PE X e (ET G W ma)) (hr : PK X kws (AT G W mr)) : PK X (⟨nm, e, kpos⟩ :: kws) (AT G W (aCons ma mr)) :=
  (pk_cons ha hr).imp fun σ H Q ⟨B, F, env, S, z, p⟩ => by
    refine ⟨B, F, env, S, z, (Pst.bindR (r := ma env S) p).imp ?_⟩
    rintro x H1 ⟨F1, env1, S1, xa, s1, z1, q1, p1⟩
    obtain ⟨F2, s2, z2, q2, nf⟩ := look_ok z1 q1
    refine ⟨B, F2, env1, S1, z2, (PstA.bindR (r := mr env1 S1) (p1.mono s2)).imp ?_⟩
    rintro ys H2 ⟨F3, env3, S3, xs, s3, z3, q3, p3⟩
    exact p3 F3 (x :: ys) H2 (Same.refl F3) z3 ⟨⟨q2.keep nf s3, nf⟩, q3⟩
theorem run_fnkS {CX : CXT} {E : L2.St → XK} {sp : Sp} {f : Addr} {fd : FuncData} {g : List Value → List Value → List Value} {gV : List V → List V → List V} {pins : List (Addr × Obj)} {σ : L2.St} {H : Hp} {s : Shared} {Q : VK} {us ws : List Value} {vs zs : List V} (F : FnOk X.prog X.w X.K X.mg X.base CX k f fd ps sp) (hr : Room k X.A) (hb : KBinds X.K fd ps ks g gV) (hx : PassesAt CX X σ (E σ))
    (I : L2.Inv X pins σ H s) (r : Vals vs us) (rz : Vals zs ws) (h : sp (gV vs zs) H Q (E σ)) : wpAny (model X.prog X.w) X.A (call (.ref f) us (ks.zip ws)) (EP X pins σ Q) X.xe s := by
  have r2 := hb.rel r rz
  have hl : (g us ws).length = ps.length := by rw [← r2.length]; exact F.len _ _ _ _ h
  refine wpAny_call (codeAny_mono (F.run X.A X.stack s H ⟨us, ks.zip ws⟩ (g us ws) (gV vs zs) Q (E σ) hr I.env0 (hb.to s us ws I.kIn hl) r2 h) fun r s' hq => ?_)
  cases r with
  | error e => exact hx pins H s e s' I hq
  | ok fl =>
    cases fl with
    | ret u => exact I.after hq
    | next => exact False.elim hq
    | brk => exact False.elim hq
    | cont => exact False.elim hq
/-- f(k = v, ..) -/
theorem pd_callK0 {kws : List Keyword} {g : {α : Type} → List α → List α → List α} (hK : G.K = X.K) (hmg : G.mg = X.mg) (d : DnK X.prog X.w X.K X.mg X.base G.T k x ps ks g m) (tk : Takes X W) (hr : Room k X.A) (hg : Gl X x)
    (hkw : PK X kws (AT G W mk)) (hall : (backToKw pos (keywordEach kws X.env)).all (·.1.isSome) = true := by rfl) (hks : (backToKw pos (keywordEach kws X.env)).filterMap (·.1) = ks := by rfl)
    (hdb : (x == ("__debug__" : Str)) = false := by decide) (hpl : ((backTo pos (starEach [] X.env)).any (·.1) || (backToKw pos (keywordEach kws X.env)).any (·.1.isNone)) = false := by rfl) :
    PE X (.Call (.Name x p) [] kws pos) (ET G W (eCall (withK 0 g m) mk)) := by
  obtain ⟨f, fd, h1, h2, h3, h4⟩ := d.ex
  have pe : PE X (.Call (.Name x p) [] kws pos) (fun σ H Q => AT G W mk σ H fun zs H2 => spOf X.K X.mg G.T ps.length m (g [] zs) H2 Q (WE W σ)) := by
    refine ⟨fun pins s σ H Q I h => ?_⟩
    refine wpAny_Call_Name_kw (ld_glob I hg h2 ?_ hdb)
    refine PySem.W.callWith_KW0 (h₀ := X.base) I.ok.mod.kin h3 hall (thn (hkw.run pos pins s σ H _ I h) fun ws s2 ⟨zs, H2, I2, rz, q2⟩ => ⟨I2.kIn, ?_⟩) hpl
    rw [hks]
    exact run_fnkS (E := WE W) (us := []) (vs := []) h1 hr h4 (passAt tk σ) I2 .nil rz q2
  refine pe.imp fun σ H Q ⟨B, F, env, S, z, p⟩ => ?_
  refine ⟨B, F, env, S, z, (PstA.bind (r := mk env S) p).imp ?_⟩
  rintro vs H1 ⟨F1, env1, S1, xs, s1, z1, q1, p1⟩
  cases e1 : takes env1 xs with
  | none => simp only [e1] at p1; exact p1.elim
  | some q =>
    obtain ⟨ds, env2⟩ := q
    simp only [e1] at p1
    obtain ⟨F2, s2, z2, r2⟩ := takes_ok z1 q1 e1
    exact call_at hK hmg d.ln z2 (d.rel (ds := []) (vs := []) rfl r2) (Pst.mono (r := match m (g [] ds) S1 with
      | .ok d fr S' => .ok (if fr = true then .fresh d else .val d) env2 S'
      | .err x S' => .err x env2 S'
      | .bad => .bad) p1 s2)
end
end PD

set_option Elab.async false
set_option linter.all false
set_option maxRecDepth 100000
set_option maxHeartbeats 4000000
/-! PD20: the law's begin. -/
namespace PD
open PySem PySem.Spec PyProof.Rows L2

def absI (i : Int) : Int := if i < 0 then -i else i
def greatOf : List Int → List Int
  | [] => []
  | i :: is => if (10 : Int) ^ 18 ≤ absI i then (absI i - (10 : Int) ^ 18) :: greatOf is else greatOf is
def S0 (ns : List Int) : DS := ⟨greatOf ns, ns.map absI, 0, 0⟩
def begun1 : EM := eLc [2] (.n 2) (iSeq (eVar 0)) (bVal (eBin (opCmpI fun i j => decide (j ≤ i)) (eFun absF (aCons (eVar 2) aNil)) (eBin opPow (eC (.int 10)) (eC (.int 18)))))
  (eBin opSub (eFun absF (aCons (eVar 2) aNil)) (eBin opPow (eC (.int 10)) (eC (.int 18))))
def begun2 : EM := eLc [2] (.n 2) (iSeq (eVar 0)) bYes (eFun absF (aCons (eVar 2) aNil))
section
variable {vs : List Nat} {t : Tg} {mc : M Bool} {me : EM} {d x : D} {ds acc : List D} {e e1 e2 e3 e4 : List Sl} {S S2 S3 : DS} {ev : EV}
theorem lcL_yes (hb : bindT t d e = some e1) (hc : mc e1 S = .ok true e2 S2) (he : me e2 S2 = .ok ev e3 S3) (ht : take e3 ev = some (x, e4)) (hl : acc.length < 100000) : lcL vs t mc me (d :: ds) acc e S = lcL vs t mc me ds (acc ++ [x]) (wipeE e4 vs) S3 := by
  rw [lcL]
  simp only [hb, hc, if_true, he, ht, if_pos hl]
theorem lcL_no (hb : bindT t d e = some e1) (hc : mc e1 S = .ok false e2 S2) : lcL vs t mc me (d :: ds) acc e S = lcL vs t mc me ds acc (wipeE e2 vs) S2 := by
  rw [lcL]
  simp only [hb, hc, Bool.false_eq_true, if_false]
end
def bMc : M Bool := bVal (eBin (opCmpI fun i j => decide (j ≤ i)) (eFun absF (aCons (eVar 2) aNil)) (eBin opPow (eC (.int 10)) (eC (.int 18))))
def bMe : EM := eBin opSub (eFun absF (aCons (eVar 2) aNil)) (eBin opPow (eC (.int 10)) (eC (.int 18)))
def bMa : EM := eFun absF (aCons (eVar 2) aNil)
theorem begun1_lc (x g : Sl) (S : DS) : ∀ (ns : List Int) (acc : List D), acc.length + ns.length ≤ 100000 →
    lcL [2] (.n 2) bMc bMe (ns.map D.int) acc [x, g, .un] S = .ok (acc ++ (greatOf ns).map D.int) [x, g, .un] S
  | [], acc, _ => by simp [lcL, greatOf]
  | i :: is, acc, hl => by
    simp only [List.length_cons] at hl
    have t : bMc [x, g, .frz (.int i)] S = .ok (decide ((10 : Int) ^ 18 ≤ absI i)) [x, g, .frz (.int i)] S := rfl
    by_cases q : (10 : Int) ^ 18 ≤ absI i
    · have ih := begun1_lc x g S is (acc ++ [.int (absI i - (10 : Int) ^ 18)]) (by simp; omega)
      have e : greatOf (i :: is) = (absI i - (10 : Int) ^ 18) :: greatOf is := by rw [greatOf, if_pos q]
      rw [decide_eq_true q] at t
      have st := lcL_yes (vs := [2]) (t := .n 2) (mc := bMc) (me := bMe) (d := .int i) (ds := is.map D.int) (acc := acc) (e := [x, g, .un]) (S := S) rfl t (show bMe [x, g, .frz (.int i)] S = .ok (.val (.int (absI i - (10 : Int) ^ 18))) [x, g, .frz (.int i)] S from rfl) (show take [x, g, .frz (.int i)] (.val (.int (absI i - (10 : Int) ^ 18))) = some (.int (absI i - (10 : Int) ^ 18), [x, g, .frz (.int i)]) from rfl) (by omega)
      rw [e, List.map_cons, st]
      show lcL _ _ _ _ _ _ [x, g, .un] S = _
      rw [ih]; simp
    · have ih := begun1_lc x g S is acc (by omega)
      have e : greatOf (i :: is) = greatOf is := by rw [greatOf, if_neg q]
      rw [decide_eq_false q] at t
      have st := lcL_no (vs := [2]) (t := .n 2) (mc := bMc) (me := bMe) (d := .int i) (ds := is.map D.int) (acc := acc) (e := [x, g, .un]) (S := S) rfl t
      rw [e, List.map_cons, st]
      exact ih
theorem begun2_lc (x g : Sl) (S : DS) : ∀ (ns : List Int) (acc : List D), acc.length + ns.length ≤ 100000 →
    lcL [2] (.n 2) bYes bMa (ns.map D.int) acc [x, g, .un] S = .ok (acc ++ (ns.map absI).map D.int) [x, g, .un] S
  | [], acc, _ => by simp [lcL]
  | i :: is, acc, hl => by
    simp only [List.length_cons] at hl
    have ih := begun2_lc x g S is (acc ++ [.int (absI i)]) (by simp; omega)
    have st := lcL_yes (vs := [2]) (t := .n 2) (mc := bYes) (me := bMa) (d := .int i) (ds := is.map D.int) (acc := acc) (e := [x, g, .un]) (S := S) rfl (show bYes [x, g, .frz (.int i)] S = .ok true [x, g, .frz (.int i)] S from rfl) (show bMa [x, g, .frz (.int i)] S = .ok (.val (.int (absI i))) [x, g, .frz (.int i)] S from rfl) (show take [x, g, .frz (.int i)] (.val (.int (absI i))) = some (.int (absI i), [x, g, .frz (.int i)]) from rfl) (by omega)
    rw [List.map_cons, st]
    show lcL _ _ _ _ _ _ [x, g, .un] S = _
    rw [ih]; simp
theorem begun1_at (ns : List Int) (S : DS) (h : ns.length ≤ 100000) : begun1 [.frz (.kl ns), .un, .un] S = .ok (.fresh (.lst ((greatOf ns).map D.int))) [.frz (.kl ns), .un, .un] S := by
  have e := begun1_lc (.frz (.kl ns)) .un S ns [] (by simpa using h)
  unfold begun1 eLc iSeq
  simp only [M.then, eVar, RR.bind, take, seqI, List.getElem?_cons_zero]
  show (match lcL [2] (.n 2) bMc bMe (ns.map D.int) [] [Sl.frz (.kl ns), Sl.un, Sl.un] S with
    | .ok acc e' S' => RR.ok (EV.fresh (.lst acc)) (unwipe _ _ e') S'
    | _ => .bad) = _
  rw [e]; rfl
theorem begun2_at (ns : List Int) (g : D) (S : DS) (h : ns.length ≤ 100000) : begun2 [.frz (.kl ns), .own g, .un] S = .ok (.fresh (.lst ((ns.map absI).map D.int))) [.frz (.kl ns), .own g, .un] S := by
  have e := begun2_lc (.frz (.kl ns)) (.own g) S ns [] (by simpa using h)
  unfold begun2 eLc iSeq
  simp only [M.then, eVar, RR.bind, take, seqI, List.getElem?_cons_zero]
  show (match lcL [2] (.n 2) bYes bMa (ns.map D.int) [] [Sl.frz (.kl ns), Sl.own g, Sl.un] S with
    | .ok acc e' S' => RR.ok (EV.fresh (.lst acc)) (unwipe _ _ e') S'
    | _ => .bad) = _
  rw [e]; rfl
/-- the state stands behind it -/
structure Begun (T : List (Addr × Str)) (H H' : Hp) (p g c : Addr) (ns : List Int) : Prop where
  pg : p ≠ g
  pc : p ≠ c
  gc : g ≠ c
  keep : ∀ b o, H b = some o → (∀ ps, o ≠ .tbl ps) → H' b = some o
  tab : LamX.Tabs T H'
  np : noTbl (H p) = none
  ng : noTbl (H g) = none
  nc : noTbl (H c) = none
  hp : H' p = some (.dK (stD g c (S0 ns)))
  hg : H' g = some (.lst ((greatOf ns).map V.int))
  hc : H' c = some (.lst ((ns.map absI).map V.int))
def spBegun (K : PySem.W.Frag) (T : List (Addr × Str)) : Sp := fun vs H Q _ => ∃ a ns, vs = [.ref a] ∧ SqL K H a (ns.map V.int) ∧ ns.length ≤ 100000 ∧ LamX.Tabs T H ∧ ∀ p g c H', Begun T H H' p g c ns → Q (.ref p) H'
theorem reps_ints {G : Gc} {F : Hp} : ∀ {ns : List Int} {vs : List V}, Reps G F (ns.map D.int) vs → vs = ns.map V.int
  | [], vs, h => h
  | n :: ns, _, ⟨v, r, e, h1, h2⟩ => by
    have h1 : v = _ := h1
    subst e h1
    rw [reps_ints h2]; rfl
section
variable {P : Program} {w : World} {K : PySem.W.Frag} {mg : Str → Option Value} {base : Heap} {x qual : Str} {params : Arguments} {body : List Stmt} {scope : Scope} {dvs : List V} {kws : List (Str × V)} {f : Addr} {fd : FuncData} {k : Nat}
theorem begun_ok {T : List (Addr × Str)} {st1 : Stmt} {lc : Expr} {k1 k2 k3 k4 j1 j2 : Nat} {q1 q2 q3 q4 q5 q6 q7 q8 q9 : Pos} (F : L2.FunD K x qual params [st1, .Return (some (.Dict [some (.Constant (.str "great") k1 q1), some (.Constant (.str "cells") k2 q2), some (.Constant (.str "rest") k3 q3), some (.Constant (.str "turn") k4 q4)]
        [.Name "great" q5, lc, .Constant (.int 0) j1 q6, .Constant (.int 0) j2 q7] q8)) q9] scope dvs kws f fd) (S : FnScope ["script", "great", "cell"] ["script"] scope) (hs : scope.names.lookup ("great" : Str) = some .local)
    (h1 : ∀ (G : Gc) (cd : Value), G.K = K → G.mg = mg → G.T = T → fd.code = cd → InFnD P w K mg base ["script", "great", "cell"] qual scope f cd k fun X W => PS X st1 (ST G W (sSet 1 begun1)))
    (h2 : ∀ (G : Gc) (cd : Value), G.K = K → G.mg = mg → G.T = T → fd.code = cd → InFnD P w K mg base ["script", "great", "cell"] qual scope f cd k fun X W => PE X lc (ET G W begun2)) :
    FnOk P w K mg base (L2.CX P w) (k + 1) f fd ["script"] (spBegun K T) := by
  obtain ⟨oc, od, dV, kV, doc, pm, an, cdv, ct, osl, rfl, lk, hcd, _, _⟩ := F.ex
  refine fn_of lk hcd S (fun vs H Q E h => by obtain ⟨_, _, rfl, _⟩ := h; rfl) fun A outer s H vs Q E hr hsp => ?_
  obtain ⟨a, ns, rfl, hq, hl, hT, hQ⟩ := hsp
  let G : Gc := ⟨K, mg, 0, 1, 2, by decide, by decide, by decide, false, T⟩
  have e1 := h1 G cdv rfl rfl rfl rfl A outer s H E hr (takes_of rfl rfl rfl rfl)
  have e2 := h2 G cdv rfl rfl rfl rfl A outer s H E hr (takes_of rfl rfl rfl rfl)
  refine ⟨_, pss_cons e1 (pss_one (ps_ret (pe_disp (pps_cons pe_str (pe_var (i := 1) rfl (.inl hs)) (pps_cons pe_str e2 (pps_cons pe_str pe_int (pps_cons pe_str pe_int pps_nil)))) rfl rfl (by simp) (Nat.le_of_ble_eq_true rfl)))), ?_⟩
  -- the start
  let F0 : Hp := fun b => if b = a then noTbl (H a) else none
  have hF0 : ∀ b u, F0 b = some u → b = a ∧ H b = some u ∧ ∀ ps, u ≠ .tbl ps := fun b u e => by
    have e : (if b = a then noTbl (H a) else none) = some u := e
    by_cases hb : b = a
    · rw [if_pos hb] at e
      obtain ⟨e3, e4⟩ := noTbl_some e
      exact ⟨hb, hb ▸ e3, e4⟩
    · rw [if_neg hb] at e; cases e
  have sF : Same F0 H := fun b u e => (hF0 b u e).2.1
  have hqF : SqL K F0 a (ns.map V.int) := by
    have at_ : ∀ o : HO, (∀ ps, o ≠ .tbl ps) → H a = some o → F0 a = some o := fun o ho e => by
      show (if a = a then noTbl (H a) else none) = some o
      rw [if_pos rfl, e]; exact noTbl_of ho
    rcases hq with (h | ⟨o, h⟩) | h
    · exact .inl (.inl (at_ _ (fun ps e => by cases e) h))
    · exact .inl (.inr ⟨o, at_ _ (fun ps e => by cases e) h⟩)
    · exact .inr h
  have so : ∀ S a, G.sh S a = none := fun S a => G.shoff S a rfl
  have z0 : Zok G ⟨ownR G (S0 ns) H, F0⟩ F0 [.frz (.kl ns), .un, .un] (S0 ns) (L2.start ["script", "great", "cell"] [.ref a]) H :=
    zok_start (G := G) (N := ["script", "great", "cell"]) (ds := [.kl ns]) sF (fun b u e => by rw [so] at e; cases e) (fun b h => absurd (so _ b) h) ⟨hT, fun b ps e => (hF0 b _ e).2.2 ps rfl, fun b ps e => by cases e⟩ ⟨_, _, rfl, ⟨a, rfl, hqF⟩, rfl⟩ (Nat.le_of_ble_eq_true rfl)
  refine ⟨_, F0, _, S0 ns, z0, ?_⟩
  unfold sSet M.thenS
  rw [begun1_at ns _ hl]
  show PstS G _ _ _ _ (SR.nx [.frz (.kl ns), .own (.lst ((greatOf ns).map D.int)), .un] (S0 ns))
  intro F1 σ1 H1 s1 z1
  -- the dict, then its values
  refine fun p hp => ?_
  have zp := z1.aside (o := .dK []) hp
  obtain ⟨g, hσ, hFg, hSg, hRg, vs, hg, rg⟩ := zp.slot 1 _ rfl
  have ev := reps_ints rg
  subst ev
  have hσ' : σ1[1]? = some (some (.ref g)) := by
    cases q : σ1[1]? with
    | none => rw [q] at hσ; cases hσ
    | some o => rw [q] at hσ; exact congrArg some hσ
  refine ⟨.ref g, hσ', _, F1, _, S0 ns, zp, ?_⟩
  rw [begun2_at ns _ _ hl]
  intro F2 v H2 s2 z2 hv
  obtain ⟨c, rfl, hFc, hSc, hRc, hnc, ws, hc, rc⟩ := hv
  have ec := reps_ints rc
  subst ec
  obtain ⟨g', hσ2, hFg2, hSg2, hRg2, vs2, hg2, rg2⟩ := z2.slot 1 _ rfl
  rw [hσ] at hσ2; cases hσ2
  have ev2 := reps_ints rg2
  subst ev2
  have hp2 : H2 p = some (.dK []) := z2.asideAt
  refine ⟨hp2, [(.inr "great", .ref g), (.inr "cells", .ref c), (.inr "rest", .int 0), (.inr "turn", .int 0)], rfl, Nat.le_of_ble_eq_true rfl, ?_⟩
  refine hQ p g c _ ?_
  obtain ⟨g1, g2⟩ := add_none hRg
  obtain ⟨c1, c2⟩ := add_none hRc
  have hRp := z1.exR
  have np : (ownR G (S0 ns) H) p = none := by
    cases q : ownR G (S0 ns) H p with
    | none => rfl
    | some u => have := z1.exR p u q; rw [hp] at this; cases this
  have gc : g ≠ c := fun e => by subst e; exact hnc 1 _ rfl hσ
  have g2 : ownR G (S0 ns) H g = none := g2
  have c2 : ownR G (S0 ns) H c = none := c2
  rw [ownR_at (so _ _)] at g2 c2 np
  refine ⟨Ne.symm g1, Ne.symm c1, gc, fun b o hb nt => ?_, ?_, np, g2, c2, upd_same, by rw [upd_ne g1]; exact hg2, by rw [upd_ne c1]; exact hc⟩
  · have nb : b ≠ p := fun e => by subst e; rw [hb, noTbl_of nt] at np; cases np
    rw [upd_ne nb]
    refine z2.exR b o ?_
    show upd (ownR G (S0 ns) H) p (.dK []) b = some o
    rw [upd_ne nb, ownR_at (so _ _), hb]; exact noTbl_of nt
  · exact (z2.tb.upd (fun ps e => by rw [hp2] at e; cases e) (fun φ e => by rw [hp2] at e; cases e) (fun ps e => by cases e)).tab
end
end PD
namespace PD
open PySem PySem.Spec PyProof.Rows L2
def spLaw (K : PySem.W.Frag) (T : List (Addr × Str)) : Sp := fun vs H Q _ => ∃ (a : Addr) (ns : List Int), vs = [.ref a] ∧ SqL K H a (ns.map V.int) ∧ ns.length ≤ 63 ∧ LamX.Tabs T H ∧ ∀ H', Q (.bl true) H'
def lawE (n : Nat) (ns : List Int) : List Sl := .frz (.kl ns) :: .frz .st :: List.replicate (n - 2) Sl.un
section
variable {P : Program} {w : World} {K : PySem.W.Frag} {mg : Str → Option Value} {base : Heap} {qual : Str} {params : Arguments} {rest : List Stmt} {scope : Scope} {dvs : List V} {kws : List (Str × V)} {f fb : Addr} {fd fdb : FuncData} {k kb : Nat} {x : Str}
theorem law_ok {T : List (Addr × Str)} {N : List Str} {m : SM} {p1 p2 p3 p4 p5 : Pos} (F : L2.FunD K x qual params (.Assign [.Name "state" p1] (.Call (.Name "_law_begun" p2) [.Name "script" p3] [] p4) p5 :: rest) scope dvs kws f fd)
    (S : FnScope ("script" :: "state" :: N) ["script"] scope) (hs0 : scope.names.lookup ("script" : Str) = some .local) (hs1 : scope.names.lookup ("state" : Str) = some .local) (hs2 : scope.names.lookup ("_law_begun" : Str) = some .globalImplicit)
    (B : FnOk P w K mg base (L2.CX P w) kb fb fdb ["script"] (spBegun K T)) (hmb : mg "_law_begun" = some (.ref fb)) (hkb : PySem.W.keepIn K (.ref fb) = true) (hbb : Binds K fdb ["script"] []) (hk : kb ≤ k)
    (hrest : ∀ (G : Gc) (cd : Value), G.K = K → G.mg = mg → G.T = T → fd.code = cd → InFnD P w K mg base ("script" :: "state" :: N) qual scope f cd k fun X W => PSs X rest (ST G W m))
    (hm : ∀ ns : List Int, ns.length ≤ 63 → ∃ e S, m (lawE (N.length + 2) ns) (S0 ns) = .rt (.val (.bl true)) e S) :
    FnOk P w K mg base (L2.CX P w) (k + 1) f fd ["script"] (spLaw K T) := by
  obtain ⟨oc, od, dV, kV, doc, pm, an, cdv, ct, osl, rfl, lk, hcd, _, _⟩ := F.ex
  refine fn_of lk hcd S (fun vs H Q E h => by obtain ⟨_, _, rfl, _⟩ := h; rfl) fun A outer s H vs Q E hr hsp => ?_
  obtain ⟨a, ns, rfl, hq, hl, hT, hQ⟩ := hsp
  have tk := takes_of (X := cxOf (L2.CX P w) P w K mg base ("script" :: "state" :: N) qual scope f cdv A outer s H E) (E := E) rfl rfl rfl rfl
  -- the rest stands over each state
  suffices hh : ∃ t, PSs (cxOf (L2.CX P w) P w K mg base ("script" :: "state" :: N) qual scope f cdv A outer s H E) rest t ∧ ∀ p g c H', Begun T H H' p g c ns → t { nx := fun _ H' => Q .non H', rt := Q } ((L2.start ("script" :: "state" :: N) [.ref a]).set 1 (some (.ref p))) H' by
    obtain ⟨t, ht, hq2⟩ := hh
    refine ⟨_, pss_cons (ps_set (i := 1) S.nd rfl (.inl hs1) (pe_callS (E := WE fun cls d _ H => E cls d H) B (hr.mono hk) (by show scope.names.lookup ("_law_begun" : Str) = some .globalImplicit; exact hs2) hmb hkb hbb (fun σ => passAt tk σ) (pa_cons (pe_var (i := 0) rfl (.inl hs0)) pa_nil)) rfl (.inr hs1)) ht, ?_⟩
    refine ⟨.ref a, rfl, a, ns, rfl, hq, by omega, hT, fun p g c H' b => hq2 p g c H' b⟩
  -- .. as a family
  refine ⟨fun D σ H' => ∃ G : Gc, G.K = K ∧ G.mg = mg ∧ G.T = T ∧ ST G (fun cls d _ H => E cls d H) m D σ H', ⟨fun pins s' σ H' D I ⟨G, e1, e2, e3, h⟩ => (hrest G cdv e1 e2 e3 rfl A outer s H E hr tk).run pins s' σ H' D I h⟩, fun p g c H' b => ?_⟩
  let G : Gc := ⟨K, mg, p, g, c, b.pg, b.pc, b.gc, true, T⟩
  refine ⟨G, rfl, rfl, rfl, ?_⟩
  let F0 : Hp := fun b => if b = a then noTbl (H a) else none
  have hF0 : ∀ b u, F0 b = some u → b = a ∧ H b = some u ∧ ∀ ps, u ≠ .tbl ps := fun b u e => by
    have e : (if b = a then noTbl (H a) else none) = some u := e
    by_cases hb : b = a
    · rw [if_pos hb] at e
      obtain ⟨e3, e4⟩ := noTbl_some e
      exact ⟨hb, hb ▸ e3, e4⟩
    · rw [if_neg hb] at e; cases e
  have sF : Same F0 H' := fun b' u e => b.keep b' u (hF0 b' u e).2.1 (hF0 b' u e).2.2
  have hqF : SqL K F0 a (ns.map V.int) := by
    have at_ : ∀ o : HO, (∀ ps, o ≠ .tbl ps) → H a = some o → F0 a = some o := fun o ho e => by
      show (if a = a then noTbl (H a) else none) = some o
      rw [if_pos rfl, e]; exact noTbl_of ho
    rcases hq with (h | ⟨o, h⟩) | h
    · exact .inl (.inl (at_ _ (fun ps e => by cases e) h))
    · exact .inl (.inr ⟨o, at_ _ (fun ps e => by cases e) h⟩)
    · exact .inr h
  have nF : ∀ y, noTbl (H y) = none → F0 y = none := fun y hy => by
    show (if y = a then noTbl (H a) else none) = none
    by_cases e : y = a
    · rw [if_pos e, ← e]; exact hy
    · rw [if_neg e]
  have sS : Same (G.sh (S0 ns)) H' := fun y u e => by
    have e : (if true = false then none else if y = p then some (.dK (stD g c (S0 ns))) else if y = g then some (.lst ((S0 ns).great.map V.int)) else if y = c then some (.lst ((S0 ns).cells.map V.int)) else none) = some u := e
    rw [if_neg (by decide)] at e
    by_cases h1 : y = p
    · rw [if_pos h1] at e; cases e; rw [h1]; exact b.hp
    · rw [if_neg h1] at e
      by_cases h2 : y = g
      · rw [if_pos h2] at e; cases e; rw [h2]; exact b.hg
      · rw [if_neg h2] at e
        by_cases h3 : y = c
        · rw [if_pos h3] at e; cases e; rw [h3]; exact b.hc
        · rw [if_neg h3] at e; cases e
  have z : Zok G ⟨fun _ => none, F0⟩ F0 (lawE (N.length + 2) ns) (S0 ns) ((L2.start ("script" :: "state" :: N) [.ref a]).set 1 (some (.ref p))) H' := by
    refine ⟨sF, sS, (fun _ _ e => by cases e), Same.refl F0, fun _ h1 h2 => absurd h2 h1, fun y h => ⟨?_, rfl⟩, ⟨b.tab, fun b ps e => (hF0 b _ e).2.2 ps rfl, fun b ps e => (by cases e)⟩, ?_, fun i sl h => ?_, fun i j d d' a' h1 => ?_⟩
    · by_cases h1 : y = p
      · exact nF y (h1 ▸ b.np)
      · by_cases h2 : y = g
        · exact nF y (h2 ▸ b.ng)
        · by_cases h3 : y = c
          · exact nF y (h3 ▸ b.nc)
          · exact absurd ((G.shn (S0 ns) rfl).mpr ⟨h1, h2, h3⟩) h
    · simp [lawE, L2.start]
    · unfold lawE at h
      match i, h with
      | 0, h =>
        simp at h; subst h
        exact ⟨.ref a, by simp [L2.start], a, rfl, hqF⟩
      | 1, h =>
        simp at h; subst h
        exact ⟨.ref p, by simp [L2.start], rfl, rfl⟩
      | i + 2, h =>
        have : sl = .un := by
          rw [List.getElem?_cons_succ, List.getElem?_cons_succ] at h
          exact List.eq_of_mem_replicate (List.mem_of_getElem? h)
        subst this; trivial
    · unfold lawE at h1
      match i, h1 with
      | 0, h1 => simp at h1
      | 1, h1 => simp at h1
      | i + 2, h1 =>
        rw [List.getElem?_cons_succ, List.getElem?_cons_succ] at h1
        have := List.eq_of_mem_replicate (List.mem_of_getElem? h1)
        cases this
  refine ⟨_, F0, _, S0 ns, z, ?_⟩
  obtain ⟨e, S', hm⟩ := hm ns hl
  rw [hm]
  intro F' σ' v H2 s2 z2 hv
  have hv : v = V.bl true := hv
  subst hv
  exact hQ H2
end
end PD

set_option Elab.async false
set_option linter.all false
set_option maxRecDepth 100000
set_option maxHeartbeats 4000000
/-! PD21: what the printed derivations lean on. -/
namespace PD
open PySem PySem.Spec PyProof.Rows L2

theorem _root_.L2.Room.u64 {k : Nat} {A : Around} (r : Room k A) : A.units + 64 < cLine := by have := r.un; omega
theorem _root_.L2.Room.u65 {k : Nat} {A : Around} (r : Room k A) : A.units + 65 < cLine := by have := r.un; omega
theorem _root_.L2.Room.u1 {k : Nat} {A : Around} (r : Room k A) : A.units + 1 < cLine := by have := r.un; omega
/-- a def that calls itself, n deep -/
def recF (b : FnS → FnS) (n : Nat) : FnS := Nat.rec (fun _ _ => FR.bad) (fun _ r => b r) n
section
variable {X : Cx} {G : Gc} {W : WX} {pos p : Pos} {x : Str} {t : Ty} {e : Expr} {es : List Expr} {mr : M (List EV)}
theorem pd_ty (hg : Gl X x) (hm : X.mg x = none) (hv : bootBuiltins x = some (.type t.nm)) (hn : x ≠ "__name__" := by decide) (hdb : (x == ("__debug__" : Str)) = false := by decide) : PE X (.Name x pos) (ET G W (eC (.ty t))) :=
  pd_const (pe_bltn (v := .ty t.nm) hg hm hv rfl hn hdb) fun F => rfl
theorem pd_callI {id : String} {r : List V → Hp → VK → Prop} {f : List D → Option EV} (hc : CallR X (.builtin id) r) (hd : FunD G f r) (hg : Gl X x) (hm : X.mg x = some (.builtin id)) (ha : PA X (e :: es) (AT G W mr)) (hdb : (x == ("__debug__" : Str)) = false := by decide)
    (he : starEach (e :: es) X.env = (false, eval e X.env) :: starEach es X.env := by rfl) (hpl : (backTo pos (starEach es X.env)).any (·.1) = false := by rfl) : PE X (.Call (.Name x p) (e :: es) [] pos) (ET G W (eFun f mr)) :=
  (pe_callBfun hc hg hm ha hdb he hpl).imp fun _ _ _ h => tCB_of hd h
end
section
variable {P : Program} {w : World} {K : PySem.W.Frag} {mg : Str → Option Value} {base : Heap} {T : List (Addr × Str)} {k : Nat} {x qual : Str} {params : Arguments} {body : List Stmt} {scope : Scope} {dvs : List V} {kws : List (Str × V)} {f : Addr} {fd : FuncData} {ps : List Str} {m : FnS}
theorem dn_of (F : L2.FunD K x qual params body scope [] kws f fd) (hm : mg x = some (.ref f)) (ok : FnOk P w K mg base (L2.CX P w) k f fd ps (spOf K mg T ps.length m))
    (hb : ∀ (kV doc pm : Value) (an : Option Addr) (cdv ct : Value) (us : List Value), us.length = ps.length → bindArgs (PySem.W.fnOf x qual params body scope .none kV doc pm an cdv ct) ⟨us, []⟩ = pure (ps.zip us)) (ln : ∀ ds S, ds.length ≠ ps.length → m ds S = .bad) : Dn P w K mg base T k x ps m :=
  ⟨⟨f, fd, ok, hm, F.kp, F.bindsN hb⟩, ln⟩
theorem dnK_of {ks : List Str} {g : {α : Type} → List α → List α → List α} (F : L2.FunD K x qual params body scope [] kws f fd) (hm : mg x = some (.ref f)) (ok : FnOk P w K mg base (L2.CX P w) k f fd ps (spOf K mg T ps.length m))
    (hb : ∀ (kV doc pm : Value) (an : Option Addr) (cdv ct : Value) (us ws : List Value), (g us ws).length = ps.length → bindArgs (PySem.W.fnOf x qual params body scope .none kV doc pm an cdv ct) ⟨us, ks.zip ws⟩ = pure (ps.zip (g us ws)))
    (hv : ∀ {vs : List V} {us : List Value} {zs : List V} {ws : List Value}, Vals vs us → Vals zs ws → Vals (g vs zs) (g us ws))
    (hr : ∀ {G : Gc} {F : Hp} {ds es : List D} {vs ws : List V}, Reps G F ds vs → Reps G F es ws → Reps G F (g ds es) (g vs ws)) (ln : ∀ ds S, ds.length ≠ ps.length → m ds S = .bad) : DnK P w K mg base T k x ps ks g m := by
  obtain ⟨oc, od, dV, kV, doc, pm, an, cdv, ct, osl, rfl, lk, hcd, hD, hK⟩ := F.ex
  have hd : dV = .none := by
    rcases hD with ⟨_, h⟩ | ⟨h, _⟩
    · exact h
    · exact absurd rfl h
  subst hd
  exact ⟨⟨f, _, ok, hm, F.kp, ⟨fun s us ws _ hl => .of_eq (hb kV doc pm an cdv ct us ws hl), hv⟩⟩, ln, hr⟩
theorem recF_len {b : FnS → FnS} {np : Nat} (h : ∀ r ds S, ds.length ≠ np → b r ds S = .bad) : ∀ (n : Nat) ds S, ds.length ≠ np → recF b n ds S = .bad
  | 0, _, _, _ => rfl
  | n + 1, ds, S, e => h _ ds S e
end
/-! ### a call that may be refused -/
section
variable {X : Cx} {G : Gc} {W : WX} {q : Str} {g c P : Addr} {k ki k2 : Nat} {pg : Arguments} {sg : Scope} {fdg : FuncData} {ns : List Str} {me : EM}
    {params : Arguments} {body : Expr} {scope : Scope} {p lpos pos p1 p2 p3 q1 q2 q3 q4 q5 q6 q7 q8 q9 q10 q11 r1 r2 r3 r4 r5 r6 r7 r8 r9 : Pos} {x : Str} {kws : List (Str × V)}
open LamX in
theorem caught_by (Fc : L2.FunD X.K x x pg [.Assign [.Name "found" p1] (.List [] p2) p3,
      .Try [.Expr (.Call (.Name "action" q1) [] [] q2) q3] [.ExceptHandler (some (.Name "MakeError" q4)) (some "error") [.Expr (.Call (.Attribute (.Name "found" q5) "append" q6) [.Name "error" q7] [] q8) q9] q10] [] [] q11,
      .Return (some (.IfExp (.Compare (.Name "found" r1) [.NotEq] [.List [] r2] r3) (.Subscript (.Name "found" r4) (.Constant (.int 0) ki r5) r6) (.Constant .none k2 r7) r8)) r9] sg [] kws g fdg) (hm : X.mg x = some (.ref g)) (ct : CtF X.K X.mg ns)
    (hline : (q6.endLine == q8.line) = true) (hb : ∀ (kV doc pm : Value) (an : Option Addr) (cdv ct : Value) (us : List Value), us.length = 1 → bindArgs (PySem.W.fnOf x x pg [.Assign [.Name "found" p1] (.List [] p2) p3,
      .Try [.Expr (.Call (.Name "action" q1) [] [] q2) q3] [.ExceptHandler (some (.Name "MakeError" q4)) (some "error") [.Expr (.Call (.Attribute (.Name "found" q5) "append" q6) [.Name "error" q7] [] q8) q9] q10] [] [] q11,
      .Return (some (.IfExp (.Compare (.Name "found" r1) [.NotEq] [.List [] r2] r3) (.Subscript (.Name "found" r4) (.Constant (.int 0) ki r5) r6) (.Constant .none k2 r7) r8)) r9] sg .none kV doc pm an cdv ct) ⟨us, []⟩ = pure ((["action"] : List Str).zip us))
    (Sg : FnScope ["action", "found", "error"] ["action"] sg) (hs : CaughtS sg) (hmg : G.mg = X.mg) (hg : Gl X x)
    (TB : TabB X.base X.mg c P) (hcode : X.env.code = .ref c) (hmT : (P, X.env.qual ++ "<lambda>") ∈ G.T) (hu : ∀ p ∈ G.T, p.1 = P → p.2 = X.env.qual ++ "<lambda>") (hr : Room (k + 2) X.A) (L : lamSB X.env.scope scope = true) (hdef : defaultsOf params X.env = ([], []))
    (hbind : ∀ (q : Str) (cl : List (Str × Addr)) (pm cv ctv : Value), bindArgs (PySem.W.kla_fn "<lambda>" q params body scope cl pm cv ctv) ⟨[], []⟩ = pure [])
    (hbody : ∀ (A : Around) (outer : List Env) (s : Shared) (H : Hp) (E : XK) (f c' : Addr), Room k (A.deeper (lamEnv X scope s.heap.objs.size f c')) → Takes (lamCx X A outer s H E scope f c') (fun cls d _ H => E cls d H) → PE (lamCx X A outer s H E scope f c') body (ET G (fun cls d _ H => E cls d H) me))
    (hdb : (x == ("__debug__" : Str)) = false := by decide) :
    PE X (.Call (.Name x p) [.Lambda params body scope lpos] [] pos) (ET G W (eCaught ns me)) := by
  obtain ⟨oc, od, dV, kV, doc, pm, an, cdv, ct', osl, rfl, lk, hcd, hD, hK⟩ := Fc.ex
  have hd : dV = .none := by
    rcases hD with ⟨_, h⟩ | ⟨h, _⟩
    · exact h
    · exact absurd rfl h
  subst hd
  obtain ⟨C0, hmk, hx⟩ := ct
  exact pd_caught (q := x) (C0 := C0) (fun n hn C e => hx n hn C (by rw [← hmg]; exact e)) hmk hline hg hm Fc.kp lk hcd (fun us hl => hb kV doc pm an cdv ct' us hl) Sg hs TB hcode hmT hu hr (lamS_by L) hdef hbind hbody hdb
end
/-! ### the draws -/
def mixedF (cells : List Int) (turn : Int) : Int := [(2147483629 : Int), 2147483587, 2147483579, 2147483563].foldl (fun found prime => found * 2147483659 + ((cells.foldl (fun blend cell => (blend * 48271 + cell + turn) % prime) (69621 * turn + prime.fdiv 41)) ^ 5) % prime) 0
end PD
namespace PD
open PySem PySem.Spec PyProof.Rows L2
theorem tabs_empty {T : List (Addr × Str)} {H : Hp} (h : ∀ p ∈ T, H p.1 = some (.tbl #[])) : LamX.Tabs T H := fun p hp => ⟨#[], h p hp, by first | trivial | simp [LamX.TriplesOk] | decide, fun pos cv e => by first | cases e | simp [codeAmong] at e⟩
theorem code_ref {K : PySem.W.Frag} {x qual : Str} {params : Arguments} {body : List Stmt} {scope : Scope} {dvs : List V} {kws : List (Str × V)} {p : He.Defn} {fd : FuncData} (F : L2.FunD K x qual params body scope dvs kws (He.fAd K p) fd) : fd.code = .ref (He.codeOf K p) := by
  obtain ⟨oc, od, dV, kV, doc, pm, an, cdv, ct, osl, rfl, lk, hcd, hD, hK⟩ := F.ex
  obtain ⟨c, rfl⟩ := He.codeIn_ref hcd
  rw [He.codeOf_eq lk rfl] <;> rfl
end PD
namespace PD
open PySem PySem.Spec PyProof.Rows L2
def biB (K : PySem.W.Frag) (x : Str) (id : String) : Bool := match PySem.W.nsIn K mainGlobals x with
  | some (some (.builtin i)) => decide (i = id)
  | _ => false
theorem biB_ok {K : PySem.W.Frag} {h : Heap} {mg : Str → Option Value} (X : K.In h) (Gn : h.Ns mainGlobals mg) {x : Str} {id : String} (c : biB K x id = true) : mg x = some (.builtin id) := by
  unfold biB at c
  split at c
  · rename_i i e
    have e2 := of_decide_eq_true c
    subst e2
    exact PySem.W.mg_of X Gn e
  · cases c
theorem cx_none {P : Program} {w : World} {H : Hp} {s : Shared} {e : Value} {s' : Shared} (h : L2.CX P w [] H s (fun _ _ _ => False) e s') : False := by
  obtain ⟨_, _, _, _, _, _, _, _, _, _, _, _, z⟩ := h
  exact z
end PD

set_option Elab.async false
set_option linter.all false
set_option maxRecDepth 100000
set_option maxHeartbeats 200000
/-! PD22: what is drawn. -/
namespace PD
open PySem PySem.Spec PyProof.Rows L2

def mxBody : SM := sSet 4 (eBin opMod (eFun intF (aCons (eBin opAdd (eBin opAdd (eBin opMul (eVar 4) (eC (.int 48271))) (eVar 5)) (eVar 2)) (aNil))) (eVar 1))
def mxTurn : SM := sSeq (sSet 4 (eBin opAdd (eBin opMul (eC (.int 69621)) (eVar 2)) (eBin opFdiv (eVar 1) (eC (.int 41))))) (sSeq (sCells 0 5 mxBody) (sSet 3 (eBin opAdd (eBin opMul (eVar 3) (eC (.int 2147483659))) (eBin opMod (eFun intF (aCons (eBin opPow (eVar 4) (eC (.int 5))) (aNil))) (eVar 1)))))
def mixedS : FnS := fnRun 1 6 (sSeq (sPar 2 3 (aCons (eBin opAdd (eSt 0 (·.turn)) (eC (.int 1))) (aCons (eC (.int 0)) (aNil)))) (sSeq (sSt 0 (fun S j => { S with turn := j }) (eVar 2)) (sSeq (sFor (.n 1) (iSeq (eLst (aCons (eC (.int 2147483629)) (aCons (eC (.int 2147483587)) (aCons (eC (.int 2147483579)) (aCons (eC (.int 2147483563)) (aNil))))))) mxTurn) (sRet (eVar 3)))))
def drawS : FnS := fnRun 2 3 (sSeq (sIf (bVal (eBin opEq (eSt 0 (·.rest)) (eC (.int 0)))) (sSt 0 (fun S j => { S with rest := j }) (eIf (bGreat 0) (ePopG 0) (eCall mixedS (aCons (eVar 0) (aNil))))) (sSkip)) (sSeq (sSet 2 (eBin opMod (eFun intF (aCons (eSt 0 (·.rest)) (aNil))) (eVar 1))) (sSeq (sSt 0 (fun S j => { S with rest := j }) (eBin opFdiv (eSt 0 (·.rest)) (eVar 1))) (sRet (eVar 2)))))
def pickS : FnS := fnRun 2 2 (sRet (eBin opIx (eVar 1) (eCall drawS (aCons (eVar 0) (aCons (eFun lenF (aCons (eVar 1) (aNil))) (aNil))))))
theorem log2_lt {n k : Nat} (h : n < 2 ^ k) (hk : 0 < k) : n.log2 < k := by
  by_cases hn : n = 0
  · subst hn; simpa using hk
  · exact (Nat.log2_lt hn).mpr h
theorem mulOk_of {i j : Int} (h1 : i.natAbs < 2 ^ 400000) (h2 : j.natAbs < 2 ^ 400000) : mulOk i j = true := by
  unfold mulOk
  have a := log2_lt h1 (by decide)
  have b := log2_lt h2 (by decide)
  exact decide_eq_true (by omega)
theorem small_pow {n : Nat} (h : n < 2 ^ 250) : n < 2 ^ 400000 := Nat.lt_of_lt_of_le h (Nat.pow_le_pow_right (by decide) (by decide))
section
variable {S : DS} {p t f b c : Int}
theorem mxBody_at (h1 : mulOk b 48271 = true) (h2 : 0 < p) : mxBody [.frz .st, .frz (.int p), .frz (.int t), .frz (.int f), .frz (.int b), .frz (.int c)] S =
    .nx [.frz .st, .frz (.int p), .frz (.int t), .frz (.int f), .frz (.int ((b * 48271 + c + t) % p)), .frz (.int c)] S := by
  have e : (eBin opMod (eFun intF (aCons (eBin opAdd (eBin opAdd (eBin opMul (eVar 4) (eC (.int 48271))) (eVar 5)) (eVar 2)) (aNil))) (eVar 1)) [.frz .st, .frz (.int p), .frz (.int t), .frz (.int f), .frz (.int b), .frz (.int c)] S =
      .ok (.val (.int ((b * 48271 + c + t) % p))) [.frz .st, .frz (.int p), .frz (.int t), .frz (.int f), .frz (.int b), .frz (.int c)] S := by
    simp [eBin, eFun, aCons, aNil, eVar, eC, M.then, RR.bind, dat, dats, EV.look, opMul, opAdd, opMod, intF, ofO, h1, h2]
  unfold mxBody sSet M.thenS
  rw [e]; rfl
def blendF (p t : Int) (cs : List Int) (b : Int) : Int := cs.foldl (fun b c => (b * 48271 + c + t) % p) b
theorem cells_at {cs0 : List Int} (hp : 0 < p) (hp2 : p < 2 ^ 200) : ∀ (cs : List Int) (b : Int) (x : Sl), b.natAbs < 2 ^ 250 → S.cells = cs0 →
    ∃ x', cellL 5 cs0 mxBody cs [.frz .st, .frz (.int p), .frz (.int t), .frz (.int f), .frz (.int b), x] S = .nx [.frz .st, .frz (.int p), .frz (.int t), .frz (.int f), .frz (.int (blendF p t cs b)), x'] S
  | [], b, x, _, _ => ⟨x, rfl⟩
  | c :: cs, b, x, hb, hs => by
    have h1 := mulOk_of (i := b) (j := 48271) (small_pow hb) (small_pow (by decide))
    have n1 := Int.emod_nonneg (b * 48271 + c + t) (Int.ne_of_gt hp)
    have n2 := Int.emod_lt_of_pos (b * 48271 + c + t) hp
    have hb2 : ((b * 48271 + c + t) % p).natAbs < 2 ^ 250 := by
      have : ((b * 48271 + c + t) % p).natAbs < 2 ^ 200 := by omega
      exact Nat.lt_of_lt_of_le this (Nat.pow_le_pow_right (by decide) (by decide))
    obtain ⟨x', ih⟩ := cells_at hp hp2 cs ((b * 48271 + c + t) % p) (.frz (.int c)) hb2 hs
    refine ⟨x', ?_⟩
    unfold cellL
    show (match mxBody [.frz .st, .frz (.int p), .frz (.int t), .frz (.int f), .frz (.int b), .frz (.int c)] S with
      | .nx e2 S2 => if S2.cells = cs0 then cellL 5 cs0 mxBody cs e2 S2 else .bad
      | _ => .bad) = _
    rw [mxBody_at h1 hp]
    simp only [hs, if_true]
    exact ih
theorem blend_lt (hp : 0 < p) : ∀ (cs : List Int) (b : Int), cs ≠ [] → 0 ≤ blendF p t cs b ∧ blendF p t cs b < p
  | [], _, h => absurd rfl h
  | [c], b, _ => ⟨Int.emod_nonneg _ (Int.ne_of_gt hp), Int.emod_lt_of_pos _ hp⟩
  | c :: d :: cs, b, _ => blend_lt hp (d :: cs) _ (by simp)
theorem blend_le (hp : 0 < p) (hp2 : p < 2 ^ 60) (hb : b.natAbs < 2 ^ 62) (cs : List Int) : (blendF p t cs b).natAbs < 2 ^ 62 := by
  cases cs with
  | nil => exact hb
  | cons c cs =>
    obtain ⟨h1, h2⟩ := blend_lt (t := t) (b := b) hp (c :: cs) (by simp)
    omega
/-- one prime's turn -/
theorem mxTurn_at {x4 x5 : Sl} (hp : 0 < p) (hp2 : p < 2 ^ 32) (ht : 0 ≤ t) (ht2 : t < 2 ^ 41) (hf : f.natAbs < 2 ^ 200) : ∃ f' x4' x5', mxTurn [.frz .st, .frz (.int p), .frz (.int t), .frz (.int f), x4, x5] S = .nx [.frz .st, .frz (.int p), .frz (.int t), .frz (.int f'), x4', x5'] S ∧ f' = f * 2147483659 + (blendF p t S.cells (69621 * t + p.fdiv 41)) ^ 5 % p := by
  have m1 : mulOk 69621 t = true := mulOk_of (small_pow (by decide)) (small_pow (by
    have : t.natAbs < 2 ^ 41 := by omega
    exact Nat.lt_of_lt_of_le this (Nat.pow_le_pow_right (by decide) (by decide))))
  have q1 : 0 ≤ p.fdiv 41 := Int.fdiv_nonneg (Int.le_of_lt hp) (by decide)
  have q2 : p.fdiv 41 ≤ p := by rw [Int.fdiv_eq_ediv_of_nonneg _ (by decide)]; omega
  have hb : (69621 * t + p.fdiv 41).natAbs < 2 ^ 62 := by omega
  have e1 : sSet 4 (eBin opAdd (eBin opMul (eC (.int 69621)) (eVar 2)) (eBin opFdiv (eVar 1) (eC (.int 41)))) [.frz .st, .frz (.int p), .frz (.int t), .frz (.int f), x4, x5] S =
      .nx [.frz .st, .frz (.int p), .frz (.int t), .frz (.int f), .frz (.int (69621 * t + p.fdiv 41)), x5] S := by
    have w : Nat.log2 41 < 9000 := by decide +kernel
    simp [sSet, M.thenS, RR.toS, eBin, eVar, eC, M.then, RR.bind, dat, EV.look, opMul, opAdd, opFdiv, ofO, m1, setE, w]
  obtain ⟨x', e2⟩ := cells_at (S := S) (t := t) (f := f) (cs0 := S.cells) hp (by omega) S.cells (69621 * t + p.fdiv 41) x5 (Nat.lt_of_lt_of_le hb (Nat.pow_le_pow_right (by decide) (by decide))) rfl
  have hb2 := blend_le (t := t) hp (by omega) hb S.cells
  have m2 : mulOk f 2147483659 = true := mulOk_of (small_pow (Nat.lt_of_lt_of_le hf (Nat.pow_le_pow_right (by decide) (by decide)))) (small_pow (by decide))
  have hb3 : (blendF p t S.cells (69621 * t + p.fdiv 41)).natAbs < 2 ^ 64 := by omega
  refine ⟨_, .frz (.int (blendF p t S.cells (69621 * t + p.fdiv 41))), x', ?_, rfl⟩
  have e3 : sCells 0 5 mxBody [.frz .st, .frz (.int p), .frz (.int t), .frz (.int f), .frz (.int (69621 * t + p.fdiv 41)), x5] S = .nx [.frz .st, .frz (.int p), .frz (.int t), .frz (.int f), .frz (.int (blendF p t S.cells (69621 * t + p.fdiv 41))), x'] S := e2
  unfold mxTurn
  rw [sSeq, e1]
  simp only
  rw [sSeq, e3]
  simp only
  have hb4 : (blendF p t S.cells (69621 * t + p.fdiv 41)).natAbs < 18446744073709551616 := by simpa using hb3
  simp [sSet, M.thenS, RR.toS, eBin, eFun, aCons, aNil, eVar, eC, M.then, RR.bind, dat, dats, EV.look, opMul, opAdd, opMod, opPow, intF, ofO, m2, hp, setE, hb4]
theorem mixed_at (S : DS) (h1 : 0 ≤ S.turn) (h2 : S.turn < 2 ^ 40) : ∃ v, mixedS [.st] S = .ok (.int v) false { S with turn := S.turn + 1 } := by
  have k1 : (0 : Int) ≤ S.turn + 1 := by omega
  have k2 : S.turn + 1 < 2 ^ 41 := by omega
  have fb : ∀ {f p b : Int}, f.natAbs < 2 ^ 150 → 0 < p → p < 2 ^ 32 → (f * 2147483659 + b % p).natAbs < 2 ^ 200 := fun {f p b} hf hp hp2 => by
    have n1 := Int.emod_nonneg b (Int.ne_of_gt hp)
    have n2 := Int.emod_lt_of_pos b hp
    have : (f * 2147483659).natAbs = f.natAbs * 2147483659 := Int.natAbs_mul _ _
    omega
  obtain ⟨f1, a4, a5, e1, q1⟩ := mxTurn_at (S := { S with turn := S.turn + 1 }) (p := 2147483629) (t := S.turn + 1) (f := 0) (x4 := .un) (x5 := .un) (by decide) (by decide) k1 k2 (by decide)
  have hf1 : f1.natAbs < 2 ^ 40 := by
    have n1 := Int.emod_nonneg (blendF 2147483629 (S.turn + 1) S.cells (69621 * (S.turn + 1) + (2147483629 : Int).fdiv 41) ^ 5) (b := 2147483629) (by decide)
    have n2 := Int.emod_lt_of_pos (blendF 2147483629 (S.turn + 1) S.cells (69621 * (S.turn + 1) + (2147483629 : Int).fdiv 41) ^ 5) (b := 2147483629) (by decide)
    simp only at q1
    omega
  obtain ⟨f2, b4, b5, e2, q2⟩ := mxTurn_at (S := { S with turn := S.turn + 1 }) (p := 2147483587) (t := S.turn + 1) (f := f1) (x4 := a4) (x5 := a5) (by decide) (by decide) k1 k2 (by omega)
  have hf2 : f2.natAbs < 2 ^ 80 := by
    have n1 := Int.emod_nonneg (blendF 2147483587 (S.turn + 1) S.cells (69621 * (S.turn + 1) + (2147483587 : Int).fdiv 41) ^ 5) (b := 2147483587) (by decide)
    have n2 := Int.emod_lt_of_pos (blendF 2147483587 (S.turn + 1) S.cells (69621 * (S.turn + 1) + (2147483587 : Int).fdiv 41) ^ 5) (b := 2147483587) (by decide)
    simp only at q2
    omega
  obtain ⟨f3, c4, c5, e3, q3⟩ := mxTurn_at (S := { S with turn := S.turn + 1 }) (p := 2147483579) (t := S.turn + 1) (f := f2) (x4 := b4) (x5 := b5) (by decide) (by decide) k1 k2 (by omega)
  have hf3 : f3.natAbs < 2 ^ 120 := by
    have n1 := Int.emod_nonneg (blendF 2147483579 (S.turn + 1) S.cells (69621 * (S.turn + 1) + (2147483579 : Int).fdiv 41) ^ 5) (b := 2147483579) (by decide)
    have n2 := Int.emod_lt_of_pos (blendF 2147483579 (S.turn + 1) S.cells (69621 * (S.turn + 1) + (2147483579 : Int).fdiv 41) ^ 5) (b := 2147483579) (by decide)
    simp only at q3
    omega
  obtain ⟨f4, d4, d5, e4, q4⟩ := mxTurn_at (S := { S with turn := S.turn + 1 }) (p := 2147483563) (t := S.turn + 1) (f := f3) (x4 := c4) (x5 := c5) (by decide) (by decide) k1 k2 (by omega)
  refine ⟨f4, ?_⟩
  have lp : forL (.n 1) mxTurn [.int 2147483629, .int 2147483587, .int 2147483579, .int 2147483563] [.frz .st, .un, .frz (.int (S.turn + 1)), .frz (.int 0), .un, .un] { S with turn := S.turn + 1 } =
      .nx [.frz .st, .frz (.int 2147483563), .frz (.int (S.turn + 1)), .frz (.int f4), d4, d5] { S with turn := S.turn + 1 } := by
    unfold forL
    simp only [bindT, List.set]
    rw [e1]
    unfold forL
    simp only [bindT, List.set]
    rw [e2]
    unfold forL
    simp only [bindT, List.set]
    rw [e3]
    unfold forL
    simp only [bindT, List.set]
    rw [e4]
    rfl
  have a1 : sPar 2 3 (aCons (eBin opAdd (eSt 0 (·.turn)) (eC (.int 1))) (aCons (eC (.int 0)) (aNil))) [.frz .st, .un, .un, .un, .un, .un] S = .nx [.frz .st, .un, .frz (.int (S.turn + 1)), .frz (.int 0), .un, .un] S := rfl
  have a2 : sSt 0 (fun S j => { S with turn := j }) (eVar 2) [.frz .st, .un, .frz (.int (S.turn + 1)), .frz (.int 0), .un, .un] S = .nx [.frz .st, .un, .frz (.int (S.turn + 1)), .frz (.int 0), .un, .un] { S with turn := S.turn + 1 } := rfl
  have a3 : sFor (.n 1) (iSeq (eLst (aCons (eC (.int 2147483629)) (aCons (eC (.int 2147483587)) (aCons (eC (.int 2147483579)) (aCons (eC (.int 2147483563)) (aNil))))))) mxTurn [.frz .st, .un, .frz (.int (S.turn + 1)), .frz (.int 0), .un, .un] { S with turn := S.turn + 1 } =
      forL (.n 1) mxTurn [.int 2147483629, .int 2147483587, .int 2147483579, .int 2147483563] [.frz .st, .un, .frz (.int (S.turn + 1)), .frz (.int 0), .un, .un] { S with turn := S.turn + 1 } := rfl
  unfold mixedS fnRun
  show toF (sSeq _ _ [.frz .st, .un, .un, .un, .un, .un] S) = _
  rw [sSeq, a1]
  simp only
  rw [sSeq, a2]
  simp only
  rw [sSeq, a3, lp]
  rfl
/-- S behind the first look -/
def drawn (S : DS) : DS := if S.rest = 0 then (match S.great with
  | g :: gs => { S with great := gs, rest := g }
  | [] => match mixedS [.st] S with
    | .ok (.int v) _ S' => { S' with rest := v }
    | _ => S) else S
def dV (S : DS) (r : Int) : Int := (drawn S).rest % r
def dN (S : DS) (r : Int) : DS := { drawn S with rest := (drawn S).rest.fdiv r }
/-- S, n draws may follow -/
def Bd (n : Nat) (S : DS) : Prop := 0 ≤ S.turn ∧ S.turn + n ≤ 2 ^ 40
theorem Bd.mono {n m : Nat} {S : DS} (h : Bd n S) (k : m ≤ n) : Bd m S := ⟨h.1, by have := h.2; omega⟩
theorem drawn_turn {S : DS} {n : Nat} (h : Bd (n + 1) S) : Bd n (drawn S) := by
  unfold drawn
  split
  · split
    · exact h.mono (by omega)
    · obtain ⟨h1, h2⟩ := h
      obtain ⟨v, e⟩ := mixed_at S h1 (by omega)
      rw [e]
      exact ⟨by show 0 ≤ S.turn + 1; omega, by show S.turn + 1 + n ≤ 2 ^ 40; omega⟩
  · exact h.mono (by omega)
theorem Bd.next {S : DS} {n : Nat} {r : Int} (h : Bd (n + 1) S) : Bd n (dN S r) := drawn_turn h
theorem dV_lt {S : DS} {r : Int} (h : 0 < r) : 0 ≤ dV S r ∧ dV S r < r := ⟨Int.emod_nonneg _ (Int.ne_of_gt h), Int.emod_lt_of_pos _ h⟩
theorem draw_at {S : DS} {n : Nat} {r : Int} (h : Bd (n + 1) S) (hr : 0 < r) (hr2 : r.natAbs.log2 < 9000) : drawS [.st, .int r] S = .ok (.int (dV S r)) false (dN S r) := by
  have hr3 : (r != 0 && decide (r.natAbs.log2 < 9000)) = true := by
    rw [Bool.and_eq_true]
    exact ⟨by simp; omega, decide_eq_true hr2⟩
  -- the first statement
  have first : sIf (bVal (eBin opEq (eSt 0 (·.rest)) (eC (.int 0)))) (sSt 0 (fun S j => { S with rest := j }) (eIf (bGreat 0) (ePopG 0) (eCall mixedS (aCons (eVar 0) (aNil))))) (sSkip) [.frz .st, .frz (.int r), .un] S = .nx [.frz .st, .frz (.int r), .un] (drawn S) := by
    have t : bVal (eBin opEq (eSt 0 (·.rest)) (eC (.int 0))) [.frz .st, .frz (.int r), .un] S = .ok (decide (S.rest = 0)) [.frz .st, .frz (.int r), .un] S := by
      show RR.ok (PyData.eqv (.int S.rest) (.int 0)) _ S = _
      rfl
    unfold sIf M.thenS
    rw [t]
    simp only [RR.toS]
    by_cases h0 : S.rest = 0
    · rw [decide_eq_true h0]
      simp only [if_true]
      unfold drawn
      rw [if_pos h0]
      cases e : S.great with
      | cons g gs =>
        have q : eIf (bGreat 0) (ePopG 0) (eCall mixedS (aCons (eVar 0) (aNil))) [.frz .st, .frz (.int r), .un] S = .ok (.val (.int g)) [.frz .st, .frz (.int r), .un] { S with great := gs } := by
          unfold eIf M.then bGreat ePopG
          simp [isSt, RR.bind, e]
        unfold sSt M.thenS
        rw [q]; rfl
      | nil =>
        obtain ⟨v, ev⟩ := mixed_at S h.1 (by have := h.2; omega)
        have q : eIf (bGreat 0) (ePopG 0) (eCall mixedS (aCons (eVar 0) (aNil))) [.frz .st, .frz (.int r), .un] S = .ok (.val (.int v)) [.frz .st, .frz (.int r), .un] { S with turn := S.turn + 1 } := by
          unfold eIf M.then bGreat
          have eg : S.great.isEmpty = true := by rw [e]; rfl
          simp only [isSt, RR.bind, eg, List.getElem?_cons_zero, if_true, Bool.not_true, Bool.false_eq_true, if_false]
          show (match mixedS [.st] S with
            | .ok d fr S' => RR.ok (if fr = true then EV.fresh d else EV.val d) [.frz .st, .frz (.int r), .un] S'
            | .err x S' => .err x [.frz .st, .frz (.int r), .un] S'
            | .bad => .bad) = _
          rw [ev]; rfl
        unfold sSt M.thenS
        rw [q]
        simp only [ev]
        rfl
    · rw [decide_eq_false h0]
      simp only [Bool.false_eq_true, if_false]
      unfold drawn
      rw [if_neg h0]; rfl
  have second : sSet 2 (eBin opMod (eFun intF (aCons (eSt 0 (·.rest)) (aNil))) (eVar 1)) [.frz .st, .frz (.int r), .un] (drawn S) = .nx [.frz .st, .frz (.int r), .frz (.int ((drawn S).rest % r))] (drawn S) := by
    simp [sSet, M.thenS, RR.toS, eBin, eFun, eSt, isSt, aCons, aNil, eVar, M.then, RR.bind, dat, dats, EV.look, opMod, intF, ofO, hr, setE]
  have third : sSt 0 (fun S j => { S with rest := j }) (eBin opFdiv (eSt 0 (·.rest)) (eVar 1)) [.frz .st, .frz (.int r), .frz (.int ((drawn S).rest % r))] (drawn S) = .nx [.frz .st, .frz (.int r), .frz (.int ((drawn S).rest % r))] (dN S r) := by
    unfold sSt M.thenS
    have q : eBin opFdiv (eSt 0 (·.rest)) (eVar 1) [.frz .st, .frz (.int r), .frz (.int ((drawn S).rest % r))] (drawn S) = .ok (.val (.int ((drawn S).rest.fdiv r))) [.frz .st, .frz (.int r), .frz (.int ((drawn S).rest % r))] (drawn S) := by
      simp only [eBin, eSt, isSt, eVar, M.then, RR.bind, dat, EV.look, opFdiv, ofO, hr3, List.getElem?_cons_zero, List.getElem?_cons_succ, if_true]
    rw [q]; rfl
  unfold drawS fnRun
  show toF (sSeq _ _ [.frz .st, .frz (.int r), .un] S) = _
  rw [sSeq, first]
  simp only
  rw [sSeq, second]
  simp only
  rw [sSeq, third]
  rfl
/-- one of a list -/
theorem pick_at {S : DS} {n : Nat} {xs : List D} (h : Bd (n + 1) S) (h0 : xs ≠ []) (hl : xs.length < 2 ^ 60) : ∃ d, d ∈ xs ∧ xs[(dV S xs.length).toNat]? = some d ∧ pickS [.st, .lst xs] S = .ok d false (dN S xs.length) := by
  have hp : (0 : Int) < xs.length := by have := List.length_pos_iff.mpr h0; omega
  obtain ⟨v1, v2⟩ := dV_lt (S := S) hp
  have hi : (dV S xs.length).toNat < xs.length := by omega
  have e1 := draw_at (r := xs.length) h hp (Nat.lt_of_lt_of_le (log2_lt (k := 60) (by simpa using hl) (by decide)) (by decide))
  refine ⟨xs[(dV S xs.length).toNat], List.getElem_mem hi, List.getElem?_eq_getElem hi, ?_⟩
  have at_ : atI xs (dV S xs.length) = some xs[(dV S xs.length).toNat] := by
    unfold atI ixN
    rw [if_pos v1, if_pos v2]
    simp [hi]
  have q : eCall drawS (aCons (eVar 0) (aCons (eFun lenF (aCons (eVar 1) (aNil))) (aNil))) [.frz .st, .frz (.lst xs)] S = .ok (.val (.int (dV S xs.length))) [.frz .st, .frz (.lst xs)] (dN S xs.length) := by
    show (match drawS [.st, .int xs.length] S with
      | .ok d fr S' => RR.ok (if fr = true then EV.fresh d else EV.val d) [.frz .st, .frz (.lst xs)] S'
      | .err x S' => .err x [.frz .st, .frz (.lst xs)] S'
      | .bad => .bad) = _
    rw [e1]; rfl
  have q2 : eBin opIx (eVar 1) (eCall drawS (aCons (eVar 0) (aCons (eFun lenF (aCons (eVar 1) (aNil))) (aNil)))) [.frz .st, .frz (.lst xs)] S = .ok (.val xs[(dV S xs.length).toNat]) [.frz .st, .frz (.lst xs)] (dN S xs.length) := by
    unfold eBin M.then
    simp only [eVar, List.getElem?_cons_zero, List.getElem?_cons_succ, RR.bind]
    have q' : M.then (aCons (eVar 0) (aCons (eFun lenF (aCons (eVar 1) (aNil))) (aNil))) _ _ S = _ := q
    rw [q]
    simp only [EV.look, dat, opIx, at_, Option.map, ofO]
  unfold pickS fnRun
  show toF (sRet _ [.frz .st, .frz (.lst xs)] S) = _
  unfold sRet M.thenS
  rw [q2]; rfl
end
end PD

set_option Elab.async false
set_option linter.all false
set_option maxRecDepth 100000
set_option maxHeartbeats 1000000
namespace PD
open PySem PySem.Spec L2
def nearB (xns : List Str) (r : FnS) : FnS := fnRun 2 4 (sSeq (sIf (bAnd (bVal (eFun (isiX xns) (aCons (eVar 1) (aCons (eC (.ty .tuple)) (aNil))))) (bAnd (bVal (eBin opNe (eVar 1) (eTup (aNil)))) (bVal (eBin (opCmpI fun i j => decide (j < i)) (eCall drawS (aCons (eVar 0) (aCons (eC (.int 5)) (aNil)))) (eC (.int 0)))))) (sSeq (sSet 3 (eCall drawS (aCons (eVar 0) (aCons (eFun lenF (aCons (eVar 1) (aNil))) (aNil))))) (sRet (eBin opAdd (eBin opAdd (eSl opSl (eVar 1) (oNone) (oSome (eVar 3))) (eTup (aCons (eCall r (aCons (eVar 0) (aCons (eBin opIx (eVar 1) (eVar 3)) (aNil)))) (aNil)))) (eSl opSl (eVar 1) (oSome (eBin opAdd (eVar 3) (eC (.int 1)))) (oNone))))) (sSkip)) (sSeq (sIf (bVal (eFun (isiX xns) (aCons (eVar 1) (aCons (eC (.ty .int)) (aNil))))) (sRet (eCall pickS (aCons (eVar 0) (aCons (eLst (aCons (eBin opAdd (eVar 1) (eC (.int 1))) (aCons (eBin opSub (eVar 1) (eC (.int 1))) (aCons (eBin opSub (eC (.int 0)) (eVar 1)) (aCons (eC (.bl true)) (aCons (eC .non) (aCons (eTup (aCons (eVar 1) (aNil))) (aCons (eFun strF (aCons (eVar 1) (aNil))) (aNil))))))))) (aNil))))) (sSkip)) (sSeq (sSet 2 (eIf (bVal (eFun (isiX xns) (aCons (eVar 1) (aCons (eC (.ty .tuple)) (aNil))))) (eFun lstF (aCons (eVar 1) (aNil))) (eLst (aCons (eVar 1) (aNil))))) (sRet (eCall pickS (aCons (eVar 0) (aCons (eLst (aCons (eC .non) (aCons (eVar 2) (aCons (eFun tupF (aCons (eBin opAdd (eVar 2) (eSl opSl (eVar 2) (oSome (eUn opNeg (eC (.int 1)))) (oNone))) (aNil))) (aCons (eFun tupF (aCons (eSl opSl (eVar 2) (oNone) (oSome (eUn opNeg (eC (.int 1))))) (aNil))) (aCons (eFun tupF (aCons (eRev (eVar 2)) (aNil))) (aCons (eFun tupF (aCons (eVar 2) (aNil))) (aCons (eC (.int 0)) (aCons (eTup (aCons (eC (.int 0)) (aCons (eC (.int 1)) (aNil)))) (aNil)))))))))) (aNil))))))))
def nearI (i : Int) : List D := [.int (i + 1), .int (i - 1), .int (0 - i), .bl true, .non, .tup [.int i], .str (toString i)]
def nearO (xs : List D) : List D := [.non, .lst xs, .tup (xs ++ cutD xs (some (-1)) none), .tup (cutD xs none (some (-1))), .tup xs.reverse, .tup xs, .int 0, .tup [.int 0, .int 1]]
section
variable {S : DS} {n : Nat}
theorem draw_ok {r : Int} (h : Bd (n + 1) S) (hr : 0 < r) (hr2 : r < 2 ^ 60) : ∃ i S', 0 ≤ i ∧ i < r ∧ Bd n S' ∧ drawS [.st, .int r] S = .ok (.int i) false S' :=
  ⟨dV S r, dN S r, (dV_lt hr).1, (dV_lt hr).2, h.next, draw_at h hr (Nat.lt_of_lt_of_le (log2_lt (k := 60) (by omega) (by decide)) (by decide))⟩
theorem pick_ok {xs : List D} (h : Bd (n + 1) S) (h0 : xs ≠ []) (hl : xs.length < 100000) : ∃ d S', d ∈ xs ∧ Bd n S' ∧ pickS [.st, .lst xs] S = .ok d false S' := by
  obtain ⟨d, hd, _, e⟩ := pick_at h h0 (Nat.lt_of_lt_of_le hl (by decide))
  exact ⟨d, _, hd, h.next, e⟩
end
section
variable {xns : List Str} {r : FnS} {S : DS} {n : Nat}
theorem near_int {i : Int} (h : Bd (n + 1) S) (hi : i.natAbs.log2 < 1920) : ∃ d S', d ∈ nearI i ∧ Bd n S' ∧ nearB xns r [.st, .int i] S = .ok d false S' := by
  obtain ⟨d, S', hd, hS, e⟩ := pick_ok (xs := nearI i) h (by simp [nearI]) (by show 7 < 100000; decide)
  refine ⟨d, S', hd, hS, ?_⟩
  unfold nearI at e
  simp only [nearB, fnRun, toF, retF, sSeq, sIf, sSet, setE, sRet, sDrop, sSkip, M.then, M.thenS, RR.bind, RR.toS, eVar, eC, eBin, eUn, eFun, eTup, eLst, eCall, eIf, eSl, oNone, oSome, asI, eRev, aCons, aNil, bVal, asB, bAnd, bOr, bNot, vAnd, vOr, vNot, dat, dats, take, takes, EV.look, slD, ofO, opAdd, opSub, opMul, opNeg, opIx, opSl, opCmpI, lenF, tupF, lstF, isiX, isiF, tyD, isTy, anyTy, List.length_cons, List.length_nil, List.map_cons, List.map_nil, List.replicate, List.cons_append, List.nil_append, List.getElem?_cons_zero, List.getElem?_cons_succ, List.set, Option.bind, Option.map, if_true, if_false, Bool.false_eq_true, decide_true, decide_false, Nat.reduceAdd, Nat.reduceSub, Nat.reduceLeDiff, Nat.zero_le, Nat.le_refl, reduceIte, reduceCtorEq, Nat.add_zero, Nat.zero_add, Bool.not_true, Bool.not_false, hi, strF, e]
theorem near_flat {xs : List D} (h : Bd (n + 1) S) (hl : xs.length < 1000) (S0 : DS) (h0 : bAnd (bVal (eBin opNe (eVar 1) (eTup (aNil)))) (bVal (eBin (opCmpI fun i j => decide (j < i)) (eCall drawS (aCons (eVar 0) (aCons (eC (.int 5)) (aNil)))) (eC (.int 0)))) [.frz .st, .frz (.tup xs), .un, .un] S0 = .ok false [.frz .st, .frz (.tup xs), .un, .un] S) : ∃ d S', d ∈ nearO xs ∧ Bd n S' ∧ nearB xns r [.st, .tup xs] S0 = .ok d false S' := by
  obtain ⟨d, S', hd, hS, e⟩ := pick_ok (xs := nearO xs) h (by simp [nearO]) (by show 8 < 100000; decide)
  refine ⟨d, S', hd, hS, ?_⟩
  unfold nearO at e
  have c1 : xs.length + (cutD xs (some (-1)) none).length ≤ 100000 := by
    have : (cutD xs (some (-1)) none).length ≤ xs.length := by unfold cutD; simp; omega
    omega
  have t0 : bAnd (bVal (eFun (isiX xns) (aCons (eVar 1) (aCons (eC (.ty .tuple)) (aNil))))) (bAnd (bVal (eBin opNe (eVar 1) (eTup (aNil)))) (bVal (eBin (opCmpI fun i j => decide (j < i)) (eCall drawS (aCons (eVar 0) (aCons (eC (.int 5)) (aNil)))) (eC (.int 0))))) [.frz .st, .frz (.tup xs), .un, .un] S0 = .ok false [.frz .st, .frz (.tup xs), .un, .un] S := by
    rw [bAnd, M.then]
    simp only [bVal, eFun, isiX, isiF, tyD, isTy, M.then, aCons, aNil, RR.bind, eVar, eC, dats, dat, EV.look, ofO, asB, List.getElem?_cons_succ, List.getElem?_cons_zero, Option.bind, decide_true, if_true]
    exact h0
  unfold nearB fnRun
  simp only [List.length_cons, List.length_nil, if_true, List.map_cons, List.map_nil, List.replicate, List.cons_append, List.nil_append]
  rw [sSeq, sIf, M.thenS, t0]
  simp only [fnRun, toF, retF, sSeq, sIf, sSet, setE, sRet, sDrop, sSkip, M.then, M.thenS, RR.bind, RR.toS, eVar, eC, eBin, eUn, eFun, eTup, eLst, eCall, eIf, eSl, oNone, oSome, asI, eRev, aCons, aNil, bVal, asB, bAnd, bOr, bNot, vAnd, vOr, vNot, dat, dats, take, takes, EV.look, slD, ofO, opAdd, opSub, opMul, opNeg, opIx, opSl, opCmpI, lenF, tupF, lstF, isiX, isiF, tyD, isTy, anyTy, List.length_cons, List.length_nil, List.map_cons, List.map_nil, List.replicate, List.cons_append, List.nil_append, List.getElem?_cons_zero, List.getElem?_cons_succ, List.set, Option.bind, Option.map, if_true, if_false, Bool.false_eq_true, decide_true, decide_false, Nat.reduceAdd, Nat.reduceSub, Nat.reduceLeDiff, Nat.zero_le, Nat.le_refl, reduceIte, reduceCtorEq, Nat.add_zero, Nat.zero_add, Bool.not_true, Bool.not_false, c1, e]
theorem ne_nil_of {xs : List D} {p : PyData} (hp : okD (.tup xs) = some p) : opNe (.tup xs) (.tup []) = some (.val (.bl (!xs.isEmpty))) := by
  unfold opNe
  rw [hp]
  have h := (okD_py hp).1
  have h' : (pys xs).map PyData.tuple = some p := h
  cases xs with
  | nil => cases h'; rfl
  | cons x xs =>
    unfold pys at h'
    cases e1 : py x with
    | none => rw [e1] at h'; cases h'
    | some a =>
      cases e2 : pys xs with
      | none => rw [e1, e2] at h'; cases h'
      | some b => rw [e1, e2] at h'; cases h'; rfl
theorem near_tup {xs : List D} {p : PyData} (m : Nat) (P : Nat → D → D → Prop) (h : Bd (n + m + 2) S) (hl : xs.length < 1000) (hp : okD (.tup xs) = some p)
    (hr : ∀ (i : Nat) (x : D) (S1 : DS), xs[i]? = some x → Bd (n + m) S1 → ∃ d S', P i x d ∧ Bd n S' ∧ r [.st, x] S1 = .ok d false S') :
    ∃ d S', (d ∈ nearO xs ∨ ∃ i x y, xs[i]? = some x ∧ P i x y ∧ d = .tup (xs.set i y)) ∧ Bd n S' ∧ nearB xns r [.st, .tup xs] S = .ok d false S' := by
  by_cases hx : xs = []
  · subst hx
    obtain ⟨d, S', h1, h2, h3⟩ := near_flat (xns := xns) (r := r) (xs := []) (n := n) (h.mono (by omega)) (by decide) S (by
      simp only [bAnd, bVal, eBin, M.then, RR.bind, eVar, eTup, aNil, takes, dat, EV.look, List.getElem?_cons_succ, List.getElem?_cons_zero, List.length_nil, Nat.zero_le, if_true, ne_nil_of hp, ofO, asB, Option.bind]
      rfl)
    exact ⟨d, S', .inl h1, h2, h3⟩
  · have hne : xs.isEmpty = false := by cases xs with | nil => exact absurd rfl hx | cons _ _ => rfl
    obtain ⟨i, S1, i0, i5, hS1, e1⟩ := draw_ok (r := 5) (n := n + m + 1) h (by decide) (by decide)
    have t1 : bAnd (bVal (eBin opNe (eVar 1) (eTup (aNil)))) (bVal (eBin (opCmpI fun i j => decide (j < i)) (eCall drawS (aCons (eVar 0) (aCons (eC (.int 5)) (aNil)))) (eC (.int 0)))) [.frz .st, .frz (.tup xs), .un, .un] S = .ok (decide (0 < i)) [.frz .st, .frz (.tup xs), .un, .un] S1 := by
      simp [bAnd, bVal, eBin, M.then, RR.bind, eVar, eTup, aNil, aCons, eC, takes, take, dat, EV.look, ne_nil_of hp, ofO, asB, hne, eCall, e1, opCmpI]
    by_cases hi : 0 < i
    · rw [decide_eq_true hi] at t1
      obtain ⟨j, S2, j0, jl, hS2, e2⟩ := draw_ok (r := xs.length) (n := n + m) hS1 (by have := List.length_pos_iff.mpr hx; omega) (by omega)
      have hj : j.toNat < xs.length := by omega
      obtain ⟨d, S3, hP, hS3, e3⟩ := hr j.toNat xs[j.toNat] S2 (List.getElem?_eq_getElem hj) hS2
      refine ⟨.tup (xs.set j.toNat d), S3, .inr ⟨j.toNat, _, d, List.getElem?_eq_getElem hj, hP, rfl⟩, hS3, ?_⟩
      have t0 : bAnd (bVal (eFun (isiX xns) (aCons (eVar 1) (aCons (eC (.ty .tuple)) (aNil))))) (bAnd (bVal (eBin opNe (eVar 1) (eTup (aNil)))) (bVal (eBin (opCmpI fun i j => decide (j < i)) (eCall drawS (aCons (eVar 0) (aCons (eC (.int 5)) (aNil)))) (eC (.int 0))))) [.frz .st, .frz (.tup xs), .un, .un] S = .ok true [.frz .st, .frz (.tup xs), .un, .un] S1 := by
        rw [bAnd, M.then]
        simp only [bVal, eFun, isiX, isiF, tyD, isTy, M.then, aCons, aNil, RR.bind, eVar, eC, dats, dat, EV.look, ofO, asB, List.getElem?_cons_succ, List.getElem?_cons_zero, Option.bind, decide_true, if_true]
        exact t1
      have at_ : atI xs j = some xs[j.toNat] := by
        unfold atI ixN
        rw [if_pos j0, if_pos jl]
        simp [hj]
      have c1 : cutD xs none (some j) = xs.take j.toNat := by
        unfold cutD HT.sIx
        simp only [if_neg (show ¬ j < 0 by omega), List.drop_zero, Nat.sub_zero]
        rw [Nat.min_eq_left (by omega)]
      have c2 : cutD xs (some (j + 1)) none = xs.drop (j.toNat + 1) := by
        unfold cutD HT.sIx
        simp only [if_neg (show ¬ j + 1 < 0 by omega)]
        rw [Nat.min_eq_left (by omega), show (j + 1).toNat = j.toNat + 1 by omega]
        exact List.take_of_length_le (by simp)
      have c3 : xs.take j.toNat ++ [d] ++ xs.drop (j.toNat + 1) = xs.set j.toNat d := by
        rw [List.set_eq_take_append_cons_drop, if_pos hj]; simp
      unfold nearB fnRun
      simp only [List.length_cons, List.length_nil, if_true, List.map_cons, List.map_nil, List.replicate, List.cons_append, List.nil_append]
      rw [sSeq, sIf, M.thenS, t0]
      have l1 : (xs.take j.toNat).length ≤ 99999 := by simp; omega
      have l2 : (xs.take j.toNat ++ [d]).length + (xs.drop (j.toNat + 1)).length ≤ 100000 := by simp; omega
      simp only [fnRun, toF, retF, sSeq, sIf, sSet, setE, sRet, sDrop, sSkip, M.then, M.thenS, RR.bind, RR.toS, eVar, eC, eBin, eUn, eFun, eTup, eLst, eCall, eIf, eSl, oNone, oSome, asI, eRev, aCons, aNil, bVal, asB, bAnd, bOr, bNot, vAnd, vOr, vNot, dat, dats, take, takes, EV.look, slD, ofO, opAdd, opSub, opMul, opNeg, opIx, opSl, opCmpI, lenF, tupF, lstF, isiX, isiF, tyD, isTy, anyTy, List.length_cons, List.length_nil, List.map_cons, List.map_nil, List.replicate, List.cons_append, List.nil_append, List.getElem?_cons_zero, List.getElem?_cons_succ, List.set, Option.bind, Option.map, if_true, if_false, Bool.false_eq_true, decide_true, decide_false, Nat.reduceAdd, Nat.reduceSub, Nat.reduceLeDiff, Nat.zero_le, Nat.le_refl, reduceIte, reduceCtorEq, Nat.add_zero, Nat.zero_add, Bool.not_true, Bool.not_false, List.getElem?_cons_succ, List.getElem?_cons_zero, Option.bind, if_true, e2, List.set, at_, Option.map, e3, c1, c2, l1, l2, c3, Bool.false_eq_true, if_false, List.length_cons, List.length_nil]
    · rw [decide_eq_false hi] at t1
      obtain ⟨d, S', h1, h2, h3⟩ := near_flat (xns := xns) (r := r) (xs := xs) (n := n) (hS1.mono (by omega)) hl S t1
      exact ⟨d, S', .inl h1, h2, h3⟩
end
end PD

set_option Elab.async false
set_option linter.all false
set_option maxRecDepth 100000
set_option maxHeartbeats 0
namespace Lw
open PySem PySem.Spec PyProof.Rows L2 PD
def xns : List Str := ["MakeError", "NoSize", "NoType", "NoKind"]
def c_KINDS : PD.D := .tup [.str "any", .str "light"]
def c_MOST_SIZE : PD.D := .int 5
def is_whole_s : FnS := fnRun 1 1 (sRet (vAnd (eFun (isiX xns) (aCons (eVar 0) (aCons (eC (.ty .int)) (aNil)))) (vNot (eFun (isiX xns) (aCons (eVar 0) (aCons (eC (.ty .bool)) (aNil)))))))
def is_below_s : FnS := fnRun 2 2 (sRet (vAnd (eCall is_whole_s (aCons (eVar 0) (aNil))) (eChain (opCmpI fun i j => decide (i ≤ j)) (opCmpI fun i j => decide (i < j)) (eC (.int 0)) (eVar 0) (eVar 1))))
def is_longest_s : FnS := fnRun 1 1 (sRet (vAnd (eCall is_below_s (aCons (eVar 0) (aCons (eBin opAdd (eC c_MOST_SIZE) (eC (.int 1))) (aNil)))) (eBin (opCmpI fun i j => decide (j < i)) (eVar 0) (eC (.int 0)))))
def need_longest_s : FnS := fnRun 1 1 (sIf (bNot (bVal (eCall is_longest_s (aCons (eVar 0) (aNil))))) (sRaise "NoSize") (sSkip))
def is_type_s : FnS := fnRun 1 3 (sSeq (sIf (bOr (bNot (bVal (eFun (isiX xns) (aCons (eVar 0) (aCons (eC (.ty .tuple)) (aNil)))))) (bNot (bVal (eFun allF (aCons (eLc [1] (.n 1) (iSeq (eVar 0)) (bYes) (vAnd (eCall is_whole_s (aCons (eVar 1) (aNil))) (eBin (opCmpI fun i j => decide (j < i)) (eVar 1) (eC (.int 0))))) (aNil)))))) (sRet (eC (.bl false))) (sSkip)) (sRet (vAnd (eBin (opCmpI fun i j => decide (i ≤ j)) (eFun sumF (aCons (eVar 0) (aNil))) (eC c_MOST_SIZE)) (eFun allF (aCons (eLc [1, 2] (.t [.n 1, .n 2]) (iZip (aCons (eVar 0) (aCons (eSl opSl (eVar 0) (oSome (eC (.int 1))) (oNone)) (aNil)))) (bYes) (eBin (opCmpI fun i j => decide (j ≤ i)) (eVar 1) (eVar 2))) (aNil))))))
def need_type_s : FnS := fnRun 1 1 (sIf (bNot (bVal (eCall is_type_s (aCons (eVar 0) (aNil))))) (sRaise "NoType") (sSkip))
def types_within_b (r : FnS) : FnS := fnRun 2 5 (sSeq (sIf (bVal (eBin opEq (eVar 0) (eC (.int 0)))) (sRet (eLst (aCons (eTup (aNil)) (aNil)))) (sSkip)) (sSeq (sSet 2 (eLst (aNil))) (sSeq (sFor (.n 3) (iRange2 (aCons (eC (.int 1)) (aCons (eBin opAdd (eFun min2F (aCons (eVar 0) (aCons (eVar 1) (aNil)))) (eC (.int 1))) (aNil)))) (sDrop (eMut 2 extF (aCons (eLc [4] (.n 4) (iSeq (eCall r (aCons (eBin opSub (eVar 0) (eVar 3)) (aCons (eVar 3) (aNil))))) (bYes) (eBin opAdd (eTup (aCons (eVar 3) (aNil))) (eVar 4))) (aNil))))) (sRet (eVar 2)))))
def types_of_s : FnS := fnRun 1 3 (sSeq (sSet 1 (eLst (aNil))) (sSeq (sFor (.n 2) (iRange1 (aCons (eBin opAdd (eVar 0) (eC (.int 1))) (aNil))) (sDrop (eMut 1 extF (aCons (eFun sortF (aCons (eCall (recF types_within_b 10) (aCons (eVar 2) (aCons (eVar 2) (aNil)))) (aNil))) (aNil))))) (sRet (eVar 1))))
def types_s : FnS := fnRun 1 1 (sSeq (sDrop (eCall need_longest_s (aCons (eVar 0) (aNil)))) (sRet (eFun tupF (aCons (eCall types_of_s (aCons (eVar 0) (aNil))) (aNil)))))
def weight_of_s : FnS := fnRun 1 5 (sSeq (sSet 1 (eC (.int 1))) (sSeq (sFor (.n 2) (iSeq (eFun lstF (aCons (eFun dicF (aCons (eLc [4] (.n 4) (iSeq (eVar 0)) (bYes) (eTup (aCons (eVar 4) (aCons (eC (.bl true)) (aNil))))) (aNil))) (aNil)))) (sFor (.n 3) (iRange1 (aCons (eMeth isTup cntF (eVar 0) (aCons (eVar 2) (aNil))) (aNil))) (sSet 1 (eBin opMul (eBin opMul (eVar 1) (eVar 2)) (eBin opAdd (eVar 3) (eC (.int 1))))))) (sRet (eVar 1))))
def weight_s : FnS := fnRun 1 1 (sSeq (sDrop (eCall need_type_s (aCons (eVar 0) (aNil)))) (sRet (eCall weight_of_s (aCons (eVar 0) (aNil)))))
def partings_of_s : FnS := fnRun 1 6 (sSeq (sSet 1 (eLst (aCons (eTup (aCons (eTup (aNil)) (aCons (eTup (aNil)) (aNil)))) (aNil)))) (sSeq (sFor (.n 2) (iSeq (eVar 0)) (sSet 1 (eLc2 [4, 5, 3] [3] (.t [.n 4, .n 5]) (iSeq (eVar 1)) (bYes) (iSeq (eTup (aCons (eTup (aCons (eBin opAdd (eVar 4) (eTup (aCons (eVar 2) (aNil)))) (aCons (eVar 5) (aNil)))) (aCons (eTup (aCons (eVar 4) (aCons (eBin opAdd (eVar 5) (eTup (aCons (eVar 2) (aNil)))) (aNil)))) (aNil))))) (.n 3) (bYes) (eVar 3)))) (sRet (eVar 1))))
def partings_s : FnS := fnRun 1 1 (sSeq (sDrop (eCall need_type_s (aCons (eVar 0) (aNil)))) (sRet (eFun tupF (aCons (eCall partings_of_s (aCons (eVar 0) (aNil))) (aNil)))))
def is_kind_s : FnS := fnRun 1 1 (sRet (vAnd (eFun (isiX xns) (aCons (eVar 0) (aCons (eC (.ty .str)) (aNil)))) (eBin (inD false) (eVar 0) (eC c_KINDS))))
def types_by_s : FnS := fnRun 2 2 (sRet (eSl opSl (eCall types_of_s (aCons (eVar 0) (aNil))) (oSome (eIf (bVal (eBin opEq (eVar 1) (eC (.str "any")))) (eC (.int 0)) (eC (.int 1)))) (oNone)))
def kind_types_s : FnS := fnRun 2 2 (sSeq (sDrop (eCall need_longest_s (aCons (eVar 0) (aNil)))) (sSeq (sIf (bNot (bVal (eCall is_kind_s (aCons (eVar 1) (aNil))))) (sRaise "NoKind") (sSkip)) (sRet (eFun tupF (aCons (eCall types_by_s (aCons (eVar 0) (aCons (eVar 1) (aNil)))) (aNil))))))
abbrev _law_mixed_s : FnS := PD.mixedS
abbrev _law_draw_s : FnS := PD.drawS
abbrev _law_pick_s : FnS := PD.pickS
def _law_is_b (r : FnS) : FnS := fnRun 2 4 (sSeq (sIf (bVal (eFun (isiX xns) (aCons (eVar 1) (aCons (eTup (aCons (eC (.ty .tuple)) (aCons (eC (.ty .list)) (aNil)))) (aNil))))) (sSeq (sIf (bOr (bVal (eBin opNe (eFun (isiX xns) (aCons (eVar 1) (aCons (eC (.ty .tuple)) (aNil)))) (eFun (isiX xns) (aCons (eVar 0) (aCons (eC (.ty .tuple)) (aNil)))))) (bOr (bVal (eBin opNe (eFun (isiX xns) (aCons (eVar 1) (aCons (eC (.ty .list)) (aNil)))) (eFun (isiX xns) (aCons (eVar 0) (aCons (eC (.ty .list)) (aNil)))))) (bVal (eBin opNe (eFun lenF (aCons (eVar 0) (aNil))) (eFun lenF (aCons (eVar 1) (aNil))))))) (sRet (eC (.bl false))) (sSkip)) (sRet (eBin opEq (eLc [2, 3] (.t [.n 2, .n 3]) (iZip (aCons (eVar 0) (aCons (eVar 1) (aNil)))) (bNot (bVal (eCall r (aCons (eVar 2) (aCons (eVar 3) (aNil)))))) (eC (.int 1))) (eLst (aNil))))) (sSkip)) (sSeq (sIf (bVal (eFun (isiX xns) (aCons (eVar 1) (aCons (eC (.ty .dict)) (aNil))))) (sRet (vAnd (eFun (isiX xns) (aCons (eVar 0) (aCons (eC (.ty .dict)) (aNil)))) (eCall r (aCons (eFun lstF (aCons (eBad) (aNil))) (aCons (eFun lstF (aCons (eBad) (aNil))) (aNil)))))) (sSkip)) (sSeq (sIf (bOr (bVal (eBin (opIs id) (eVar 1) (eC .non))) (bVal (eFun (isiX xns) (aCons (eVar 1) (aCons (eC (.ty .str)) (aNil)))))) (sRet (vAnd (eBin opEq (eFun (isiX xns) (aCons (eVar 0) (aCons (eC (.ty .str)) (aNil)))) (eFun (isiX xns) (aCons (eVar 1) (aCons (eC (.ty .str)) (aNil))))) (eBin opEq (eVar 0) (eVar 1)))) (sSkip)) (sRet (vAnd (eFun (isiX xns) (aCons (eVar 0) (aCons (eC (.ty .int)) (aNil)))) (vAnd (eBin opEq (eVar 0) (eVar 1)) (vAnd (eBin opEq (eBin (opIs id) (eVar 0) (eC (.bl true))) (eBin (opIs id) (eVar 1) (eC (.bl true)))) (eBin opEq (eBin (opIs id) (eVar 0) (eC (.bl false))) (eBin (opIs id) (eVar 1) (eC (.bl false)))))))))))
def _law_near_b (r : FnS) : FnS := fnRun 2 4 (sSeq (sIf (bAnd (bVal (eFun (isiX xns) (aCons (eVar 1) (aCons (eC (.ty .tuple)) (aNil))))) (bAnd (bVal (eBin opNe (eVar 1) (eTup (aNil)))) (bVal (eBin (opCmpI fun i j => decide (j < i)) (eCall _law_draw_s (aCons (eVar 0) (aCons (eC (.int 5)) (aNil)))) (eC (.int 0)))))) (sSeq (sSet 3 (eCall _law_draw_s (aCons (eVar 0) (aCons (eFun lenF (aCons (eVar 1) (aNil))) (aNil))))) (sRet (eBin opAdd (eBin opAdd (eSl opSl (eVar 1) (oNone) (oSome (eVar 3))) (eTup (aCons (eCall r (aCons (eVar 0) (aCons (eBin opIx (eVar 1) (eVar 3)) (aNil)))) (aNil)))) (eSl opSl (eVar 1) (oSome (eBin opAdd (eVar 3) (eC (.int 1)))) (oNone))))) (sSkip)) (sSeq (sIf (bVal (eFun (isiX xns) (aCons (eVar 1) (aCons (eC (.ty .int)) (aNil))))) (sRet (eCall _law_pick_s (aCons (eVar 0) (aCons (eLst (aCons (eBin opAdd (eVar 1) (eC (.int 1))) (aCons (eBin opSub (eVar 1) (eC (.int 1))) (aCons (eBin opSub (eC (.int 0)) (eVar 1)) (aCons (eC (.bl true)) (aCons (eC .non) (aCons (eTup (aCons (eVar 1) (aNil))) (aCons (eFun strF (aCons (eVar 1) (aNil))) (aNil))))))))) (aNil))))) (sSkip)) (sSeq (sSet 2 (eIf (bVal (eFun (isiX xns) (aCons (eVar 1) (aCons (eC (.ty .tuple)) (aNil))))) (eFun lstF (aCons (eVar 1) (aNil))) (eLst (aCons (eVar 1) (aNil))))) (sRet (eCall _law_pick_s (aCons (eVar 0) (aCons (eLst (aCons (eC .non) (aCons (eVar 2) (aCons (eFun tupF (aCons (eBin opAdd (eVar 2) (eSl opSl (eVar 2) (oSome (eUn opNeg (eC (.int 1)))) (oNone))) (aNil))) (aCons (eFun tupF (aCons (eSl opSl (eVar 2) (oNone) (oSome (eUn opNeg (eC (.int 1))))) (aNil))) (aCons (eFun tupF (aCons (eRev (eVar 2)) (aNil))) (aCons (eFun tupF (aCons (eVar 2) (aNil))) (aCons (eC (.int 0)) (aCons (eTup (aCons (eC (.int 0)) (aCons (eC (.int 1)) (aNil)))) (aNil)))))))))) (aNil))))))))
def _law_common_s : FnS := fnRun 2 2 (sSeq (whL (bVal (eBin opNe (eVar 1) (eC (.int 0)))) (sPar 0 1 (aCons (eVar 1) (aCons (eBin opMod (eFun intF (aCons (eVar 0) (aNil))) (eVar 1)) (aNil)))) 200) (sRet (eVar 0)))
def _law_no_s : FnS := fnRun 2 3 (sSeq (sSet 2 (eBin opMul (eCall _law_common_s (aCons (eFun absF (aCons (eVar 0) (aNil))) (aCons (eFun absF (aCons (eVar 1) (aNil))) (aNil)))) (eIf (bVal (eBin (opCmpI fun i j => decide (j < i)) (eVar 1) (eC (.int 0)))) (eC (.int 1)) (eBin opSub (eC (.int 0)) (eC (.int 1)))))) (sRet (eTup (aCons (eBin opFdiv (eVar 0) (eVar 2)) (aCons (eBin opFdiv (eVar 1) (eVar 2)) (aNil))))))
def _law_plus_s : FnS := fnRun 2 2 (sRet (eCall _law_no_s (aCons (eBin opAdd (eBin opMul (eBin opIx (eVar 0) (eC (.int 0))) (eBin opIx (eVar 1) (eC (.int 1)))) (eBin opMul (eBin opIx (eVar 1) (eC (.int 0))) (eBin opIx (eVar 0) (eC (.int 1))))) (aCons (eBin opMul (eBin opIx (eVar 0) (eC (.int 1))) (eBin opIx (eVar 1) (eC (.int 1)))) (aNil)))))
def _law_types_of_s : FnS := fnRun 1 6 (sSeq (sParF 1 2 (eLst (aNil)) (eLst (aCons (eTup (aCons (eTup (aNil)) (aCons (eVar 0) (aNil)))) (aNil)))) (sSeq (whL (bVal (eBin opNe (eVar 2) (eLst (aNil)))) (sSeq (sBind (.t [.n 4, .n 5]) (eMut 2 popF aNil)) (sSeq (sIf (bVal (eBin opEq (eVar 5) (eC (.int 0)))) (sDrop (eMut 1 appF (aCons (eVar 4) (aNil)))) (sSkip)) (sFor (.n 3) (iRange2 (aCons (eC (.int 1)) (aCons (eBin opAdd (eVar 5) (eC (.int 1))) (aNil)))) (sIf (bOr (bVal (eBin opEq (eVar 4) (eTup (aNil)))) (bVal (eBin (opCmpI fun i j => decide (i ≤ j)) (eVar 3) (eBin opIx (eVar 4) (eBin opSub (eFun lenF (aCons (eVar 4) (aNil))) (eC (.int 1))))))) (sDrop (eMut 2 appF (aCons (eTup (aCons (eBin opAdd (eVar 4) (eTup (aCons (eVar 3) (aNil)))) (aCons (eBin opSub (eVar 5) (eVar 3)) (aNil)))) (aNil)))) (sSkip))))) 200) (sRet (eFun sortF (aCons (eVar 1) (aNil))))))
def _law_types_s : FnS := fnRun 1 3 (sSeq (sSet 1 (eLst (aNil))) (sSeq (sFor (.n 2) (iRange1 (aCons (eBin opAdd (eVar 0) (eC (.int 1))) (aNil))) (sExt 1 (eCall _law_types_of_s (aCons (eVar 2) (aNil))))) (sRet (eVar 1))))
def _law_weight_s : FnS := fnRun 1 5 (sSeq (sSet 1 (eC (.int 1))) (sSeq (sFor (.n 2) (iKeysN (eFun dicF (aCons (eLc [4] (.n 4) (iSeq (eVar 0)) (bYes) (eTup (aCons (eVar 4) (aCons (eC (.bl true)) (aNil))))) (aNil)))) (sFor (.n 3) (iRange2 (aCons (eC (.int 1)) (aCons (eBin opAdd (eMeth isTup cntF (eVar 0) (aCons (eVar 2) (aNil))) (eC (.int 1))) (aNil)))) (sSet 1 (eBin opMul (eBin opMul (eVar 1) (eVar 2)) (eVar 3))))) (sRet (eVar 1))))
def _law_partings_s : FnS := fnRun 1 6 (sSeq (sSet 1 (eLst (aCons (eTup (aCons (eTup (aNil)) (aCons (eTup (aNil)) (aNil)))) (aNil)))) (sSeq (sFor (.n 2) (iSeq (eVar 0)) (sSeq (sSet 3 (eLst (aNil))) (sSeq (sFor (.t [.n 4, .n 5]) (iSeq (eVar 1)) (sExt 3 (eLst (aCons (eTup (aCons (eBin opAdd (eVar 4) (eTup (aCons (eVar 2) (aNil)))) (aCons (eVar 5) (aNil)))) (aCons (eTup (aCons (eVar 4) (aCons (eBin opAdd (eVar 5) (eTup (aCons (eVar 2) (aNil)))) (aNil)))) (aNil)))))) (sSet 1 (eVar 3))))) (sRet (eVar 1))))
def _law_is_own_s : FnS := fnRun 1 3 (sSeq (sIf (bOr (bNot (bVal (eFun (isiX xns) (aCons (eVar 0) (aCons (eC (.ty .tuple)) (aNil)))))) (bVal (eBin opNe (eLc [1] (.n 1) (iSeq (eVar 0)) (bOr (bNot (bVal (eFun (isiX xns) (aCons (eVar 1) (aCons (eC (.ty .int)) (aNil)))))) (bOr (bVal (eBin (opIs id) (eVar 1) (eC (.bl true)))) (bOr (bVal (eBin (opIs id) (eVar 1) (eC (.bl false)))) (bVal (eBin (opCmpI fun i j => decide (i < j)) (eVar 1) (eC (.int 1))))))) (eC (.int 1))) (eLst (aNil))))) (sRet (eC (.bl false))) (sSkip)) (sRet (vAnd (eBin (opCmpI fun i j => decide (i ≤ j)) (eFun sumF (aCons (eVar 0) (aNil))) (eC (.int 5))) (eBin opEq (eLc [1, 2] (.t [.n 1, .n 2]) (iZip (aCons (eVar 0) (aCons (eSl opSl (eVar 0) (oSome (eC (.int 1))) (oNone)) (aNil)))) (bVal (eBin (opCmpI fun i j => decide (i < j)) (eVar 1) (eVar 2))) (eC (.int 1))) (eLst (aNil))))))
def law_b0 : SM := sSeq (sSet 8 (eFun tupF (aCons (eCall _law_types_s (aCons (eVar 2) (aNil))) (aNil)))) (sSeq (sIf (bNot (bVal (eCall (recF _law_is_b 10) (aCons (eLst (aCons (eCall types_s (aCons (eVar 2) (aNil))) (aCons (eCall kind_types_s (aCons (eVar 2) (aCons (eC (.str "any")) (aNil)))) (aCons (eCall (withK 0 (fun {_} us ws => match us, ws with | [], [x0, x1] => [x1, x0] | _, _ => []) kind_types_s) (aCons (eC (.str "light")) (aCons (eVar 2) (aNil)))) (aNil))))) (aCons (eLst (aCons (eVar 8) (aCons (eVar 8) (aCons (eSl opSl (eVar 8) (oSome (eC (.int 1))) (oNone)) (aNil))))) (aNil)))))) (sRet (eC (.bl false))) (sSkip)) (sFor (.n 4) (iSeq (eLst (aCons (eC .non) (aCons (eC (.str "")) (aCons (eC (.str "open")) (aCons (eC (.str "Any")) (aCons (eC (.int 5)) (aCons (eC (.bl true)) (aNil))))))))) (sIf (bNot (bVal (eFun (isiX xns) (aCons (eCaught xns (eCall kind_types_s (aCons (eVar 2) (aCons (eVar 4) (aNil))))) (aCons (eC (.cls "NoKind")) (aNil)))))) (sRet (eC (.bl false))) (sSkip))))
def law_p0 : SM := sFor (.n 2) (iRange2 (aCons (eC (.int 1)) (aCons (eC (.int 6)) (aNil)))) law_b0
def law_b1 : SM := sSeq (sSet 9 (eTup (aCons (eC (.int 0)) (aCons (eC (.int 1)) (aNil))))) (sSeq (sFor (.n 10) (iSeq (eCall _law_types_of_s (aCons (eVar 3) (aNil)))) (sSeq (sIf (bOr (bNot (bVal (eCall (recF _law_is_b 10) (aCons (eLst (aCons (eCall weight_s (aCons (eVar 10) (aNil))) (aCons (eCall partings_s (aCons (eVar 10) (aNil))) (aNil)))) (aCons (eLst (aCons (eCall _law_weight_s (aCons (eVar 10) (aNil))) (aCons (eFun tupF (aCons (eCall _law_partings_s (aCons (eVar 10) (aNil))) (aNil))) (aNil)))) (aNil)))))) (bVal (eBin (opIs not) (eCall is_type_s (aCons (eVar 10) (aNil))) (eC (.bl true))))) (sRet (eC (.bl false))) (sSkip)) (sSet 9 (eCall _law_plus_s (aCons (eVar 9) (aCons (eTup (aCons (eC (.int 1)) (aCons (eCall _law_weight_s (aCons (eVar 10) (aNil))) (aNil)))) (aNil))))))) (sIf (bVal (eBin opNe (eVar 9) (eTup (aCons (eC (.int 1)) (aCons (eC (.int 1)) (aNil)))))) (sRet (eC (.bl false))) (sSkip)))
def law_p1 : SM := sFor (.n 3) (iRange1 (aCons (eC (.int 6)) (aNil))) law_b1
def law_b2 : SM := sSeq (sSet 11 (eLst (aCons (eCaught xns (eCall types_s (aCons (eVar 4) (aNil)))) (aNil)))) (sSeq (sDrop (eMut 11 appF (aCons (eCaught xns (eCall kind_types_s (aCons (eVar 4) (aCons (eC .non) (aNil))))) (aNil)))) (sIf (bVal (eBin opNe (eLc [12] (.n 12) (iSeq (eVar 11)) (bNot (bVal (eFun (isiX xns) (aCons (eVar 12) (aCons (eC (.cls "NoSize")) (aNil)))))) (eC (.int 1))) (eLst (aNil)))) (sRet (eC (.bl false))) (sSkip)))
def law_p2 : SM := sFor (.n 4) (iSeq (eLst (aCons (eC (.int 0)) (aCons (eC (.int 6)) (aCons (eC .non) (aCons (eC (.bl true)) (aCons (eC (.str "3")) (aCons (eTup (aCons (eC (.int 3)) (aNil))) (aNil))))))))) law_b2
def law_p3 : SM := sSet 5 (eLst (aCons (eC .non) (aCons (eC (.int 5)) (aCons (eLst (aCons (eC (.int 1)) (aNil))) (aCons (eTup (aCons (eC (.int 1)) (aCons (eC (.int 2)) (aNil)))) (aCons (eTup (aCons (eC (.int 6)) (aNil))) (aCons (eTup (aCons (eC (.int 5)) (aCons (eC (.int 1)) (aNil)))) (aCons (eTup (aCons (eC (.int 0)) (aNil))) (aCons (eTup (aCons (eUn opNeg (eC (.int 1))) (aNil))) (aCons (eTup (aCons (eC (.bl true)) (aNil))) (aCons (eTup (aCons (eC (.int 2)) (aCons (eC (.int 2)) (aCons (eC (.int 1)) (aNil))))) (aCons (eBin opMul (eTup (aCons (eC (.int 1)) (aNil))) (eC (.int 6))) (aCons (eTup (aCons (eC (.str "1")) (aNil))) (aCons (eTup (aCons (eTup (aCons (eC (.int 1)) (aNil))) (aNil))) (aCons (eTup (aCons (eC (.int 2)) (aCons (eC (.int 1)) (aCons (eC (.int 1)) (aNil))))) (aCons (eTup (aCons (eC (.int 3)) (aCons (eC (.int 2)) (aNil)))) (aNil)))))))))))))))))
def law_b4 : SM := sDrop (eMut 5 appF (aCons (eCall (recF _law_near_b 10) (aCons (eVar 1) (aCons (eCall _law_pick_s (aCons (eVar 1) (aCons (eCall _law_types_s (aCons (eC (.int 5)) (aNil))) (aNil)))) (aNil)))) (aNil)))
def law_p4 : SM := sFor (.n 6) (iRange1 (aCons (eBin opAdd (eC (.int 15)) (eFun min2F (aCons (eFun lenF (aCons (eVar 0) (aNil))) (aCons (eC (.int 10)) (aNil))))) (aNil))) law_b4
def law_b5 : SM := sSeq (sSet 8 (eCall _law_is_own_s (aCons (eVar 7) (aNil)))) (sSeq (sSet 11 (eLst (aCons (eCaught xns (eCall weight_s (aCons (eVar 7) (aNil)))) (aNil)))) (sSeq (sDrop (eMut 11 appF (aCons (eCaught xns (eCall partings_s (aCons (eVar 7) (aNil)))) (aNil)))) (sIf (bOr (bNot (bVal (eCall (recF _law_is_b 10) (aCons (eCall is_type_s (aCons (eVar 7) (aNil))) (aCons (eVar 8) (aNil)))))) (bVal (eBin opNe (eLc [12] (.n 12) (iSeq (eVar 11)) (bOr (bVal (eBin opNe (eBin (opIs id) (eVar 12) (eC .non)) (eVar 8))) (bAnd (bVal (eBin (opIs not) (eVar 12) (eC .non))) (bNot (bVal (eFun (isiX xns) (aCons (eVar 12) (aCons (eC (.cls "NoType")) (aNil)))))))) (eC (.int 1))) (eLst (aNil))))) (sRet (eC (.bl false))) (sSkip))))
def law_p5 : SM := sFor (.n 7) (iSeq (eVar 5)) law_b5
def law_p6 : SM := sRet (eC (.bl true))
def law_m : SM := sSeq law_p0 (sSeq law_p1 (sSeq law_p2 (sSeq law_p3 (sSeq law_p4 (sSeq law_p5 (law_p6))))))
end Lw
namespace Lw
open PySem PySem.Spec PyProof.Rows L2 PD
def top (i : Nat) : Stmt := PySem.Challenge.pw_makebook_k01_whole_types_and_partings.main.body.getD i (.Pass ⟨0, 0, 0, 0⟩)
def d_is_whole : He.DefD := ⟨("is_whole", none), "is_whole", "is_whole", defArgs (top 6), defBody (top 6), defScope (top 6), [], []⟩
def d_is_below : He.DefD := ⟨("is_below", none), "is_below", "is_below", defArgs (top 7), defBody (top 7), defScope (top 7), [], []⟩
def d_is_longest : He.DefD := ⟨("is_longest", none), "is_longest", "is_longest", defArgs (top 11), defBody (top 11), defScope (top 11), [], []⟩
def d_need_longest : He.DefD := ⟨("need_longest", none), "need_longest", "need_longest", defArgs (top 12), defBody (top 12), defScope (top 12), [], []⟩
def d_is_type : He.DefD := ⟨("is_type", none), "is_type", "is_type", defArgs (top 13), defBody (top 13), defScope (top 13), [], []⟩
def d_need_type : He.DefD := ⟨("need_type", none), "need_type", "need_type", defArgs (top 14), defBody (top 14), defScope (top 14), [], []⟩
def d_types_within : He.DefD := ⟨("types_within", none), "types_within", "types_within", defArgs (top 15), defBody (top 15), defScope (top 15), [], []⟩
def d_types_of : He.DefD := ⟨("types_of", none), "types_of", "types_of", defArgs (top 16), defBody (top 16), defScope (top 16), [], []⟩
def d_types : He.DefD := ⟨("types", none), "types", "types", defArgs (top 17), defBody (top 17), defScope (top 17), [], []⟩
def d_weight_of : He.DefD := ⟨("weight_of", none), "weight_of", "weight_of", defArgs (top 18), defBody (top 18), defScope (top 18), [], []⟩
def d_weight : He.DefD := ⟨("weight", none), "weight", "weight", defArgs (top 19), defBody (top 19), defScope (top 19), [], []⟩
def d_partings_of : He.DefD := ⟨("partings_of", none), "partings_of", "partings_of", defArgs (top 20), defBody (top 20), defScope (top 20), [], []⟩
def d_partings : He.DefD := ⟨("partings", none), "partings", "partings", defArgs (top 21), defBody (top 21), defScope (top 21), [], []⟩
def d_is_kind : He.DefD := ⟨("is_kind", none), "is_kind", "is_kind", defArgs (top 22), defBody (top 22), defScope (top 22), [], []⟩
def d_types_by : He.DefD := ⟨("types_by", none), "types_by", "types_by", defArgs (top 23), defBody (top 23), defScope (top 23), [], []⟩
def d_kind_types : He.DefD := ⟨("kind_types", none), "kind_types", "kind_types", defArgs (top 24), defBody (top 24), defScope (top 24), [], []⟩
def d__law_begun : He.DefD := ⟨("_law_begun", none), "_law_begun", "_law_begun", defArgs (top 26), defBody (top 26), defScope (top 26), [], []⟩
def d__law_mixed : He.DefD := ⟨("_law_mixed", none), "_law_mixed", "_law_mixed", defArgs (top 27), defBody (top 27), defScope (top 27), [], []⟩
def d__law_draw : He.DefD := ⟨("_law_draw", none), "_law_draw", "_law_draw", defArgs (top 28), defBody (top 28), defScope (top 28), [], []⟩
def d__law_pick : He.DefD := ⟨("_law_pick", none), "_law_pick", "_law_pick", defArgs (top 29), defBody (top 29), defScope (top 29), [], []⟩
def d__law_is : He.DefD := ⟨("_law_is", none), "_law_is", "_law_is", defArgs (top 30), defBody (top 30), defScope (top 30), [], []⟩
def d__law_near : He.DefD := ⟨("_law_near", none), "_law_near", "_law_near", defArgs (top 31), defBody (top 31), defScope (top 31), [], []⟩
def d__law_caught : He.DefD := ⟨("_law_caught", none), "_law_caught", "_law_caught", defArgs (top 32), defBody (top 32), defScope (top 32), [], []⟩
def d__law_common : He.DefD := ⟨("_law_common", none), "_law_common", "_law_common", defArgs (top 33), defBody (top 33), defScope (top 33), [], []⟩
def d__law_no : He.DefD := ⟨("_law_no", none), "_law_no", "_law_no", defArgs (top 34), defBody (top 34), defScope (top 34), [], []⟩
def d__law_plus : He.DefD := ⟨("_law_plus", none), "_law_plus", "_law_plus", defArgs (top 35), defBody (top 35), defScope (top 35), [], []⟩
def d__law_types_of : He.DefD := ⟨("_law_types_of", none), "_law_types_of", "_law_types_of", defArgs (top 36), defBody (top 36), defScope (top 36), [], []⟩
def d__law_types : He.DefD := ⟨("_law_types", none), "_law_types", "_law_types", defArgs (top 37), defBody (top 37), defScope (top 37), [], []⟩
def d__law_weight : He.DefD := ⟨("_law_weight", none), "_law_weight", "_law_weight", defArgs (top 38), defBody (top 38), defScope (top 38), [], []⟩
def d__law_partings : He.DefD := ⟨("_law_partings", none), "_law_partings", "_law_partings", defArgs (top 39), defBody (top 39), defScope (top 39), [], []⟩
def d__law_is_own : He.DefD := ⟨("_law_is_own", none), "_law_is_own", "_law_is_own", defArgs (top 40), defBody (top 40), defScope (top 40), [], []⟩
def d_law : He.DefD := ⟨("law", none), "law", "law", defArgs (top 41), defBody (top 41), defScope (top 41), [], []⟩
def fn0 : List He.DefD := [d_is_whole, d_is_below, d_is_longest, d_need_longest, d_is_type, d_need_type, d_types_within, d_types_of, d_types, d_weight_of, d_weight, d_partings_of, d_partings, d_is_kind, d_types_by, d_kind_types, d__law_begun, d__law_mixed, d__law_draw, d__law_pick, d__law_is, d__law_near, d__law_caught, d__law_common, d__law_no, d__law_plus, d__law_types_of, d__law_types, d__law_weight, d__law_partings]
def fn1 : List He.DefD := [d__law_is_own, d_law]
def fn : List He.DefD := fn0 ++ (fn1)
def fa0 : List He.Fa := [.glo "is_whole", .glo "is_below", .glo "is_longest", .glo "need_longest", .glo "is_type", .glo "need_type", .glo "types_within", .glo "types_of", .glo "types", .glo "weight_of", .glo "weight", .glo "partings_of", .glo "partings", .glo "is_kind", .glo "types_by", .glo "kind_types", .glo "_law_begun", .glo "_law_mixed", .glo "_law_draw", .glo "_law_pick", .glo "_law_is", .glo "_law_near", .glo "_law_caught", .glo "_law_common", .glo "_law_no", .glo "_law_plus", .glo "_law_types_of", .glo "_law_types", .glo "_law_weight", .glo "_law_partings"]
def fa1 : List He.Fa := [.glo "_law_is_own", .glo "law", .glo "MakeError", .glo "NoSize", .glo "NoType", .glo "NoKind", .int "MOST_SIZE" 5, .free "ValueError", .free "abs", .free "all", .free "bool", .free "dict", .free "int", .free "isinstance", .free "len", .free "list", .free "min", .free "range", .free "sorted", .free "str", .free "sum", .free "tuple", .free "zip", .exc "MakeError", .exc "NoSize", .exc "NoType", .exc "NoKind", .exm "MakeError" "MakeError" true, .exm "MakeError" "NoSize" false, .exm "MakeError" "NoType" false]
def fa2 : List He.Fa := [.exm "MakeError" "NoKind" false, .exm "NoSize" "MakeError" true, .exm "NoSize" "NoSize" true, .exm "NoSize" "NoType" false, .exm "NoSize" "NoKind" false, .exm "NoType" "MakeError" true, .exm "NoType" "NoSize" false, .exm "NoType" "NoType" true, .exm "NoType" "NoKind" false, .exm "NoKind" "MakeError" true, .exm "NoKind" "NoSize" false, .exm "NoKind" "NoType" false, .exm "NoKind" "NoKind" true]
def fa : List He.Fa := fa0 ++ (fa1 ++ (fa2))
def tf0 : List He.Defn := [("law", none)]
def tf : List He.Defn := tf0
def names0 : List Str := ["is_whole", "is_below", "is_longest", "need_longest", "is_type", "need_type", "types_within", "types_of", "types", "weight_of", "weight", "partings_of", "partings", "is_kind", "types_by", "kind_types", "_law_begun", "_law_mixed", "_law_draw", "_law_pick", "_law_is", "_law_near", "_law_caught", "_law_common", "_law_no", "_law_plus", "_law_types_of", "_law_types", "_law_weight", "_law_partings"]
def names1 : List Str := ["_law_is_own", "MakeError", "NoSize", "NoType", "NoKind", "MOST_SIZE", "KINDS"]
def names : List Str := names0 ++ (names1)
def ex (K : PySem.W.Frag) : Bool := (fun K => PD.isFB K xns && PD.ctB K xns && PD.cnB K "KINDS" c_KINDS && PD.cnB K "MOST_SIZE" c_MOST_SIZE && PD.xcB K "NoKind" && PD.xcB K "NoSize" && PD.xcB K "NoType") K
abbrev R : PySem.W.OpenRow := PySem.W.OpenLaw.row PySem.Challenge.rw_makebook_k01_whole_types_and_partings
abbrev hk : PySem.W.Hook := He.hookX 5 fa fn [] tf ex
def ob (s : PySem.W.SharedT) : He.AlX := He.obsX 5 fa fn [] tf ex (HandSHeadRun.getT s)
theorem ob_eq (s : PySem.W.SharedT) : ob s = hk.obs s.abs := He.obsX_eq (HandSHeadRun.getT_eq s)
theorem run (w : World) : HandSHeadRun.RunEq R (PySem.W.view R.prog [41]) hk ob 2600 names w := by
  intro os
  kernel_rfl
end Lw
namespace Lw
open PySem PySem.Spec PyProof.Rows L2 PD
section
variable {P : Program} {w : World} {K : PySem.W.Frag} {mg : Str → Option Value} {base : Heap} {T : List (Addr × Str)} {f : Addr} {fd : FuncData}
theorem ok_is_whole (F : L2.FunD K "is_whole" "is_whole" (defArgs (top 6)) (defBody (top 6)) (defScope (top 6)) [] [] f fd) (b_bool : mg "bool" = none) (b_int : mg "int" = none) (b_isinstance : mg "isinstance" = none) (isf : IsF K mg xns) : FnOk P w K mg base (L2.CX P w) 1 f fd ["thing"] (spOf K mg T 1 is_whole_s) :=
  fn_pdD (N := ["thing"]) F ⟨rfl, rfl, rfl, by decide +kernel, rfl, by decide +kernel, by decide +kernel⟩ (by decide) fun G cd hK hmg hT hcd A outer s H E hr tk => by
    subst hK hmg hT
    have nd : (["thing"] : List Str).Nodup := by decide
    exact pds_one (pds_ret (pd_vand (pd_callB call_isiX (fun_isiX rfl rfl isf) (by rfl) b_isinstance (by rfl) (pd_acons (pd_var (pv 0)) (pd_acons (pd_ty (by rfl) b_int rfl) (pd_anil)))) (pd_one (pd_vnot (pd_callB call_isiX (fun_isiX rfl rfl isf) (by rfl) b_isinstance (by rfl) (pd_acons (pd_var (pv 0)) (pd_acons (pd_ty (by rfl) b_bool rfl) (pd_anil))))))))
theorem ok_is_below (F : L2.FunD K "is_below" "is_below" (defArgs (top 7)) (defBody (top 7)) (defScope (top 7)) [] [] f fd) (h_is_whole : Dn P w K mg base T 1 "is_whole" ["thing"] is_whole_s) : FnOk P w K mg base (L2.CX P w) 2 f fd ["thing", "many"] (spOf K mg T 2 is_below_s) :=
  fn_pdD (N := ["thing", "many"]) F ⟨rfl, rfl, rfl, by decide +kernel, rfl, by decide +kernel, by decide +kernel⟩ (by decide) fun G cd hK hmg hT hcd A outer s H E hr tk => by
    subst hK hmg hT
    have nd : (["thing", "many"] : List Str).Nodup := by decide
    exact pds_one (pds_ret (pd_vand (pd_calld rfl rfl h_is_whole tk (hr.mono (by omega)) (by rfl) (pd_acons (pd_var (pv 0)) (pd_anil))) (pd_one (pd_chain op_leI opd_cmpI op_ltI opd_cmpI (pd_const pe_int fun _ => rfl) (pd_var (pv 0)) (pd_var (pv 1))))))
theorem ok_is_longest (F : L2.FunD K "is_longest" "is_longest" (defArgs (top 11)) (defBody (top 11)) (defScope (top 11)) [] [] f fd) (k_MOST_SIZE : CnOk K mg "MOST_SIZE" c_MOST_SIZE) (h_is_below : Dn P w K mg base T 2 "is_below" ["thing", "many"] is_below_s) : FnOk P w K mg base (L2.CX P w) 3 f fd ["thing"] (spOf K mg T 1 is_longest_s) :=
  fn_pdD (N := ["thing"]) F ⟨rfl, rfl, rfl, by decide +kernel, rfl, by decide +kernel, by decide +kernel⟩ (by decide) fun G cd hK hmg hT hcd A outer s H E hr tk => by
    subst hK hmg hT
    have nd : (["thing"] : List Str).Nodup := by decide
    exact pds_one (pds_ret (pd_vand (pd_calld rfl rfl h_is_below tk (hr.mono (by omega)) (by rfl) (pd_acons (pd_var (pv 0)) (pd_acons (pd_bin op_addD opd_add (pd_cn rfl k_MOST_SIZE (by rfl)) (pd_const pe_int fun _ => rfl)) (pd_anil)))) (pd_one (pd_cmp op_gtD opd_cmpI (pd_var (pv 0)) (pd_const pe_int fun _ => rfl) (by rfl)))))
theorem ok_need_longest (F : L2.FunD K "need_longest" "need_longest" (defArgs (top 12)) (defBody (top 12)) (defScope (top 12)) [] [] f fd) (x_NoSize : ∃ C, mg "NoSize" = some (.ref C) ∧ XcOk K C) (h_is_longest : Dn P w K mg base T 3 "is_longest" ["thing"] is_longest_s) : FnOk P w K mg base (L2.CX P w) 4 f fd ["longest"] (spOf K mg T 1 need_longest_s) :=
  fn_pdD (N := ["longest"]) F ⟨rfl, rfl, rfl, by decide +kernel, rfl, by decide +kernel, by decide +kernel⟩ (by decide) fun G cd hK hmg hT hcd A outer s H E hr tk => by
    subst hK hmg hT
    have nd : (["longest"] : List Str).Nodup := by decide
    exact pds_one (pds_if (pd_not (pd_test (pd_calld rfl rfl h_is_longest tk (hr.mono (by omega)) (by rfl) (pd_acons (pd_var (pv 0)) (pd_anil))))) (pds_one (pds_raise rfl rfl tk x_NoSize.choose_spec.2 x_NoSize.choose_spec.1 rfl (by rfl))) (pds_nil))
theorem ok_is_type (F : L2.FunD K "is_type" "is_type" (defArgs (top 13)) (defBody (top 13)) (defScope (top 13)) [] [] f fd) (k_MOST_SIZE : CnOk K mg "MOST_SIZE" c_MOST_SIZE) (b_all : mg "all" = none) (b_isinstance : mg "isinstance" = none) (b_sum : mg "sum" = none) (b_tuple : mg "tuple" = none) (b_zip : mg "zip" = none) (isf : IsF K mg xns) (h_is_whole : Dn P w K mg base T 1 "is_whole" ["thing"] is_whole_s) : FnOk P w K mg base (L2.CX P w) 2 f fd ["thing"] (spOf K mg T 1 is_type_s) :=
  fn_pdD (N := ["thing", "one", "other"]) F ⟨rfl, rfl, rfl, by decide +kernel, rfl, by decide +kernel, by decide +kernel⟩ (by decide) fun G cd hK hmg hT hcd A outer s H E hr tk => by
    subst hK hmg hT
    have nd : (["thing", "one", "other"] : List Str).Nodup := by decide
    exact pds_cons (pds_if (PW.pt (pd_or (pd_not (pd_test (pd_callB call_isiX (fun_isiX rfl rfl isf) (by rfl) b_isinstance (by rfl) (pd_acons (pd_var (pv 0)) (pd_acons (pd_ty (by rfl) b_tuple rfl) (pd_anil)))))) (pd_or1 (pd_not (pd_test (pd_callB (cr_all rfl) (fun_all rfl) (by rfl) b_all (by rfl) (pd_acons (pd_lc rfl nd (pdi_seq rfl (pd_var (pv 0))) (own := [("one", 1)]) (blkOk_by (N := ["thing", "one", "other"]) (sc := defScope (top 13)) (by decide +kernel)) (by decide) (fun _ _ _ _ _ => pdg_name (i := 1) nd rfl (.inl rfl)) (fun _ _ _ _ _ => pdt_nil) (fun _ _ _ _ _ => pd_vand (pd_calld rfl rfl h_is_whole PD.takes0 (hr.mono (by omega)) (by rfl) (pd_acons (pd_var (pv 1)) (pd_anil))) (pd_one (pd_cmp op_gtD opd_cmpI (pd_var (pv 1)) (pd_const pe_int fun _ => rfl) (by rfl))))) (pd_anil)))))))) (pds_one (pds_ret (pd_const pe_bl fun _ => rfl))) (pds_nil)) (pds_one (pds_ret (pd_vand (pd_cmp op_leI opd_cmpI (pd_callB (call_sumA rfl) (fun_sum rfl) (by rfl) b_sum (by rfl) (pd_acons (pd_var (pv 0)) (pd_anil))) (pd_cn rfl k_MOST_SIZE (by rfl)) (by rfl)) (pd_one (pd_callB (cr_all rfl) (fun_all rfl) (by rfl) b_all (by rfl) (pd_acons (pd_lcP rfl nd (pdi_zip rfl (by rfl) b_zip (pd_acons (pd_var (pv 0)) (pd_acons (pd_slice sl3 opd_sl (pd_var (pv 0)) (pd_osome (pd_const pe_int fun _ => rfl)) (pd_onone)) (pd_anil)))) (own := [("one", 1), ("other", 2)]) (blkOk_by (N := ["thing", "one", "other"]) (sc := defScope (top 13)) (by decide +kernel)) (by decide) (fun _ _ _ _ _ => pdg_pair rfl (pdg_cons (pdg_name (i := 1) nd rfl (.inl rfl)) (pdg_cons (pdg_name (i := 2) nd rfl (.inl rfl)) (pdg_nil)))) (fun _ _ _ _ _ => pdt_nil) (fun _ _ _ _ _ => pd_cmp op_geD opd_cmpI (pd_var (pv 1)) (pd_var (pv 2)) (by rfl))) (pd_anil)))))))
theorem ok_need_type (F : L2.FunD K "need_type" "need_type" (defArgs (top 14)) (defBody (top 14)) (defScope (top 14)) [] [] f fd) (x_NoType : ∃ C, mg "NoType" = some (.ref C) ∧ XcOk K C) (h_is_type : Dn P w K mg base T 2 "is_type" ["thing"] is_type_s) : FnOk P w K mg base (L2.CX P w) 3 f fd ["thing"] (spOf K mg T 1 need_type_s) :=
  fn_pdD (N := ["thing"]) F ⟨rfl, rfl, rfl, by decide +kernel, rfl, by decide +kernel, by decide +kernel⟩ (by decide) fun G cd hK hmg hT hcd A outer s H E hr tk => by
    subst hK hmg hT
    have nd : (["thing"] : List Str).Nodup := by decide
    exact pds_one (pds_if (pd_not (pd_test (pd_calld rfl rfl h_is_type tk (hr.mono (by omega)) (by rfl) (pd_acons (pd_var (pv 0)) (pd_anil))))) (pds_one (pds_raise rfl rfl tk x_NoType.choose_spec.2 x_NoType.choose_spec.1 rfl (by rfl))) (pds_nil))
theorem ok_types_within (F : L2.FunD K "types_within" "types_within" (defArgs (top 15)) (defBody (top 15)) (defScope (top 15)) [] [] f fd) (mf : mg "types_within" = some (.ref f)) (b_min : mg "min" = none) (b_range : mg "range" = none) : ∀ n : Nat, FnOk P w K mg base (L2.CX P w) (0 + n + 1) f fd ["size", "most"] (spOf K mg T 2 (recF types_within_b n))
  | 0 => fn_never (N := ["size", "most", "found", "first", "rest"]) F ⟨rfl, rfl, rfl, by decide +kernel, rfl, by decide +kernel, by decide +kernel⟩
  | n + 1 => by
    have ih := dn_of F mf (ok_types_within F mf b_min b_range n) (fun _ _ _ _ _ _ us hl => match us, hl with | [_, _], _ => rfl) (recF_len (fun _ => fnRun_len) n)
    exact fn_pdD (N := ["size", "most", "found", "first", "rest"]) F ⟨rfl, rfl, rfl, by decide +kernel, rfl, by decide +kernel, by decide +kernel⟩ (by decide) fun G cd hK hmg hT hcd A outer s H E hr tk => by
      subst hK hmg hT
      have nd : (["size", "most", "found", "first", "rest"] : List Str).Nodup := by decide
      exact pds_cons (pds_if (pd_testC (op_eqD hr.u64) opd_eq (pd_var (pv 0)) (pd_const pe_int fun _ => rfl) (by rfl)) (pds_one (pds_ret (pd_lst (pd_acons (pd_tup (pd_anil)) (pd_anil))))) (pds_nil)) (pds_cons (pds_set nd (i := 2) rfl (.inl rfl) (pd_lst (pd_anil))) (pds_cons (pds_for (passes_of rfl) rfl (pdi_range2 (by rfl) b_range (pd_acons (pd_const pe_int fun _ => rfl) (pd_acons (pd_bin op_addD opd_add (pd_callB (call_min2 rfl) fun_min2 (by rfl) b_min (by rfl) (pd_acons (pd_var (pv 0)) (pd_acons (pd_var (pv 1)) (pd_anil)))) (pd_const pe_int fun _ => rfl)) (pd_anil)))) (pdg_name (i := 3) nd rfl (.inr rfl)) (pds_one (pds_drop (pd_mut PySem.F.slot_list_extend PySem.F.type_list_extend mt_extR mut_ext (pv 2) (pd_acons (pd_lc rfl nd (pdi_seq rfl (pd_calld rfl rfl ih tk (hr.mono (by omega)) (by rfl) (pd_acons (pd_bin op_subD opd_sub (pd_var (pv 0)) (pd_var (pv 3))) (pd_acons (pd_var (pv 3)) (pd_anil))))) (own := [("rest", 4)]) (blkOk_by (N := ["size", "most", "found", "first", "rest"]) (sc := defScope (top 15)) (by decide +kernel)) (by decide) (fun _ _ _ _ _ => pdg_name (i := 4) nd rfl (.inl rfl)) (fun _ _ _ _ _ => pdt_nil) (fun _ _ _ _ _ => pd_bin op_addD opd_add (pd_tup (pd_acons (pd_var (pv 3)) (pd_anil))) (pd_var (pv 4)))) (pd_anil)))))) (pds_one (pds_ret (pd_var (pv 2))))))
theorem ok_types_of (F : L2.FunD K "types_of" "types_of" (defArgs (top 16)) (defBody (top 16)) (defScope (top 16)) [] [] f fd) (b_range : mg "range" = none) (b_sorted : mg "sorted" = none) (h_types_within : Dn P w K mg base T 11 "types_within" ["size", "most"] (recF types_within_b 10)) : FnOk P w K mg base (L2.CX P w) 12 f fd ["longest"] (spOf K mg T 1 types_of_s) :=
  fn_pdD (N := ["longest", "found", "size"]) F ⟨rfl, rfl, rfl, by decide +kernel, rfl, by decide +kernel, by decide +kernel⟩ (by decide) fun G cd hK hmg hT hcd A outer s H E hr tk => by
    subst hK hmg hT
    have nd : (["longest", "found", "size"] : List Str).Nodup := by decide
    exact pds_cons (pds_set nd (i := 1) rfl (.inl rfl) (pd_lst (pd_anil))) (pds_cons (pds_for (passes_of rfl) rfl (pdi_range1 (by rfl) b_range (pd_acons (pd_bin op_addD opd_add (pd_var (pv 0)) (pd_const pe_int fun _ => rfl)) (pd_anil))) (pdg_name (i := 2) nd rfl (.inl rfl)) (pds_one (pds_drop (pd_mut PySem.F.slot_list_extend PySem.F.type_list_extend mt_extR mut_ext (pv 1) (pd_acons (pd_callB (call_sortD rfl hr.u64) fun_sort (by rfl) b_sorted (by rfl) (pd_acons (pd_calld rfl rfl h_types_within tk (hr.mono (by omega)) (by rfl) (pd_acons (pd_var (pv 2)) (pd_acons (pd_var (pv 2)) (pd_anil)))) (pd_anil))) (pd_anil)))))) (pds_one (pds_ret (pd_var (pv 1)))))
theorem ok_types (F : L2.FunD K "types" "types" (defArgs (top 17)) (defBody (top 17)) (defScope (top 17)) [] [] f fd) (b_tuple : mg "tuple" = none) (h_need_longest : Dn P w K mg base T 4 "need_longest" ["longest"] need_longest_s) (h_types_of : Dn P w K mg base T 12 "types_of" ["longest"] types_of_s) : FnOk P w K mg base (L2.CX P w) 13 f fd ["longest"] (spOf K mg T 1 types_s) :=
  fn_pdD (N := ["longest"]) F ⟨rfl, rfl, rfl, by decide +kernel, rfl, by decide +kernel, by decide +kernel⟩ (by decide) fun G cd hK hmg hT hcd A outer s H E hr tk => by
    subst hK hmg hT
    have nd : (["longest"] : List Str).Nodup := by decide
    exact pds_cons (pds_drop (pd_calld rfl rfl h_need_longest tk (hr.mono (by omega)) (by rfl) (pd_acons (pd_var (pv 0)) (pd_anil)))) (pds_one (pds_ret (pd_callTy call_tupF (fun_tup rfl) (by rfl) b_tuple (by rfl) (pd_acons (pd_calld rfl rfl h_types_of tk (hr.mono (by omega)) (by rfl) (pd_acons (pd_var (pv 0)) (pd_anil))) (pd_anil)))))
theorem ok_weight_of (F : L2.FunD K "weight_of" "weight_of" (defArgs (top 18)) (defBody (top 18)) (defScope (top 18)) [] [] f fd) (b_dict : mg "dict" = none) (b_list : mg "list" = none) (b_range : mg "range" = none) : FnOk P w K mg base (L2.CX P w) 1 f fd ["one"] (spOf K mg T 1 weight_of_s) :=
  fn_pdD (N := ["one", "found", "length", "often", "ring"]) F ⟨rfl, rfl, rfl, by decide +kernel, rfl, by decide +kernel, by decide +kernel⟩ (by decide) fun G cd hK hmg hT hcd A outer s H E hr tk => by
    subst hK hmg hT
    have nd : (["one", "found", "length", "often", "ring"] : List Str).Nodup := by decide
    exact pds_cons (pds_set nd (i := 1) rfl (.inl rfl) (pd_const pe_int fun _ => rfl)) (pds_cons (pds_for (passes_of rfl) rfl (pdi_seq rfl (pd_callTy (call_lstF rfl) (fun_lst rfl) (by rfl) b_list (by rfl) (pd_acons (pd_callTy (call_dictP rfl) (fun_dic rfl) (by rfl) b_dict (by rfl) (pd_acons (pd_lc rfl nd (pdi_seq rfl (pd_var (pv 0))) (own := [("ring", 4)]) (blkOk_by (N := ["one", "found", "length", "often", "ring"]) (sc := defScope (top 18)) (by decide +kernel)) (by decide) (fun _ _ _ _ _ => pdg_name (i := 4) nd rfl (.inl rfl)) (fun _ _ _ _ _ => pdt_nil) (fun _ _ _ _ _ => pd_tup (pd_acons (pd_var (pv 4)) (pd_acons (pd_const pe_bl fun _ => rfl) (pd_anil))))) (pd_anil))) (pd_anil)))) (pdg_name (i := 2) nd rfl (.inl rfl)) (pds_one (pds_for (passes_of rfl) rfl (pdi_range1 (by rfl) b_range (pd_acons (pd_meth (kind_tup rfl) (meth_cnt rfl) ty_tupR PySem.F.plainAttrs_tuple PySem.F.slot_tuple_count PySem.F.type_tuple_count (mt_cntT hr.u64) (pd_var (pv 0)) (pd_acons (pd_var (pv 2)) (pd_anil))) (pd_anil))) (pdg_name (i := 3) nd rfl (.inl rfl)) (pds_one (pds_set nd (i := 1) rfl (.inl rfl) (pd_bin op_mulD opd_mul (pd_bin op_mulD opd_mul (pd_var (pv 1)) (pd_var (pv 2))) (pd_bin op_addD opd_add (pd_var (pv 3)) (pd_const pe_int fun _ => rfl)))))))) (pds_one (pds_ret (pd_var (pv 1)))))
theorem ok_weight (F : L2.FunD K "weight" "weight" (defArgs (top 19)) (defBody (top 19)) (defScope (top 19)) [] [] f fd) (h_need_type : Dn P w K mg base T 3 "need_type" ["thing"] need_type_s) (h_weight_of : Dn P w K mg base T 1 "weight_of" ["one"] weight_of_s) : FnOk P w K mg base (L2.CX P w) 4 f fd ["rings"] (spOf K mg T 1 weight_s) :=
  fn_pdD (N := ["rings"]) F ⟨rfl, rfl, rfl, by decide +kernel, rfl, by decide +kernel, by decide +kernel⟩ (by decide) fun G cd hK hmg hT hcd A outer s H E hr tk => by
    subst hK hmg hT
    have nd : (["rings"] : List Str).Nodup := by decide
    exact pds_cons (pds_drop (pd_calld rfl rfl h_need_type tk (hr.mono (by omega)) (by rfl) (pd_acons (pd_var (pv 0)) (pd_anil)))) (pds_one (pds_ret (pd_calld rfl rfl h_weight_of tk (hr.mono (by omega)) (by rfl) (pd_acons (pd_var (pv 0)) (pd_anil)))))
theorem ok_partings_of (F : L2.FunD K "partings_of" "partings_of" (defArgs (top 20)) (defBody (top 20)) (defScope (top 20)) [] [] f fd)  : FnOk P w K mg base (L2.CX P w) 1 f fd ["one"] (spOf K mg T 1 partings_of_s) :=
  fn_pdD (N := ["one", "found", "ring", "pair", "here", "there"]) F ⟨rfl, rfl, rfl, by decide +kernel, rfl, by decide +kernel, by decide +kernel⟩ (by decide) fun G cd hK hmg hT hcd A outer s H E hr tk => by
    subst hK hmg hT
    have nd : (["one", "found", "ring", "pair", "here", "there"] : List Str).Nodup := by decide
    exact pds_cons (pds_set nd (i := 1) rfl (.inl rfl) (pd_lst (pd_acons (pd_tup (pd_acons (pd_tup (pd_anil)) (pd_acons (pd_tup (pd_anil)) (pd_anil)))) (pd_anil)))) (pds_cons (pds_for (passes_of rfl) rfl (pdi_seq rfl (pd_var (pv 0))) (pdg_name (i := 2) nd rfl (.inr rfl)) (pds_one (pds_setLc2 kd_plain kd_plain rfl nd (i := 1) rfl rfl rfl (pdi_seq rfl (pd_var (pv 1))) (own := [("here", 4), ("there", 5), ("pair", 3)]) (vs1 := [3]) (blkOk_by (N := ["one", "found", "ring", "pair", "here", "there"]) (sc := defScope (top 20)) (by decide +kernel)) (by decide) (by decide) (by decide) (fun _ _ _ _ _ => pdg_tup rfl (pdg_cons (pdg_name (i := 4) nd rfl (.inl rfl)) (pdg_cons (pdg_name (i := 5) nd rfl (.inl rfl)) (pdg_nil))) (hK := rfl)) (fun _ _ _ _ _ => pdt_nil) (fun _ _ _ _ _ => pdi_seq rfl (pd_tup (pd_acons (pd_tup (pd_acons (pd_bin op_addD opd_add (pd_var (pv 4)) (pd_tup (pd_acons (pd_var (pv 2)) (pd_anil)))) (pd_acons (pd_var (pv 5)) (pd_anil)))) (pd_acons (pd_tup (pd_acons (pd_var (pv 4)) (pd_acons (pd_bin op_addD opd_add (pd_var (pv 5)) (pd_tup (pd_acons (pd_var (pv 2)) (pd_anil)))) (pd_anil)))) (pd_anil))))) (fun _ _ _ _ _ => pdg_name (i := 3) nd rfl (.inl rfl)) (fun _ _ _ _ _ => pdt_nil) (fun _ _ _ _ _ => pd_var (pv 3))))) (pds_one (pds_ret (pd_var (pv 1)))))
theorem ok_partings (F : L2.FunD K "partings" "partings" (defArgs (top 21)) (defBody (top 21)) (defScope (top 21)) [] [] f fd) (b_tuple : mg "tuple" = none) (h_need_type : Dn P w K mg base T 3 "need_type" ["thing"] need_type_s) (h_partings_of : Dn P w K mg base T 1 "partings_of" ["one"] partings_of_s) : FnOk P w K mg base (L2.CX P w) 4 f fd ["rings"] (spOf K mg T 1 partings_s) :=
  fn_pdD (N := ["rings"]) F ⟨rfl, rfl, rfl, by decide +kernel, rfl, by decide +kernel, by decide +kernel⟩ (by decide) fun G cd hK hmg hT hcd A outer s H E hr tk => by
    subst hK hmg hT
    have nd : (["rings"] : List Str).Nodup := by decide
    exact pds_cons (pds_drop (pd_calld rfl rfl h_need_type tk (hr.mono (by omega)) (by rfl) (pd_acons (pd_var (pv 0)) (pd_anil)))) (pds_one (pds_ret (pd_callTy call_tupF (fun_tup rfl) (by rfl) b_tuple (by rfl) (pd_acons (pd_calld rfl rfl h_partings_of tk (hr.mono (by omega)) (by rfl) (pd_acons (pd_var (pv 0)) (pd_anil))) (pd_anil)))))
theorem ok_is_kind (F : L2.FunD K "is_kind" "is_kind" (defArgs (top 22)) (defBody (top 22)) (defScope (top 22)) [] [] f fd) (k_KINDS : CnOk K mg "KINDS" c_KINDS) (b_isinstance : mg "isinstance" = none) (b_str : mg "str" = none) (isf : IsF K mg xns) : FnOk P w K mg base (L2.CX P w) 1 f fd ["thing"] (spOf K mg T 1 is_kind_s) :=
  fn_pdD (N := ["thing"]) F ⟨rfl, rfl, rfl, by decide +kernel, rfl, by decide +kernel, by decide +kernel⟩ (by decide) fun G cd hK hmg hT hcd A outer s H E hr tk => by
    subst hK hmg hT
    have nd : (["thing"] : List Str).Nodup := by decide
    exact pds_one (pds_ret (pd_vand (pd_callB call_isiX (fun_isiX rfl rfl isf) (by rfl) b_isinstance (by rfl) (pd_acons (pd_var (pv 0)) (pd_acons (pd_ty (by rfl) b_str rfl) (pd_anil)))) (pd_one (pd_cmp (op_in3 hr.u65) opd_in (pd_var (pv 0)) (pd_cn rfl k_KINDS (by rfl)) (by rfl)))))
theorem ok_types_by (F : L2.FunD K "types_by" "types_by" (defArgs (top 23)) (defBody (top 23)) (defScope (top 23)) [] [] f fd) (h_types_of : Dn P w K mg base T 12 "types_of" ["longest"] types_of_s) : FnOk P w K mg base (L2.CX P w) 13 f fd ["longest", "kind"] (spOf K mg T 2 types_by_s) :=
  fn_pdD (N := ["longest", "kind"]) F ⟨rfl, rfl, rfl, by decide +kernel, rfl, by decide +kernel, by decide +kernel⟩ (by decide) fun G cd hK hmg hT hcd A outer s H E hr tk => by
    subst hK hmg hT
    have nd : (["longest", "kind"] : List Str).Nodup := by decide
    exact pds_one (pds_ret (pd_slice sl3 opd_sl (pd_calld rfl rfl h_types_of tk (hr.mono (by omega)) (by rfl) (pd_acons (pd_var (pv 0)) (pd_anil))) (pd_osome (pd_ifExp (pd_testC (op_eqD hr.u64) opd_eq (pd_var (pv 1)) (pd_const pe_str fun _ => rfl) (by rfl)) (pd_const pe_int fun _ => rfl) (pd_const pe_int fun _ => rfl))) (pd_onone)))
theorem ok_kind_types (F : L2.FunD K "kind_types" "kind_types" (defArgs (top 24)) (defBody (top 24)) (defScope (top 24)) [] [] f fd) (x_NoKind : ∃ C, mg "NoKind" = some (.ref C) ∧ XcOk K C) (b_tuple : mg "tuple" = none) (h_need_longest : Dn P w K mg base T 4 "need_longest" ["longest"] need_longest_s) (h_is_kind : Dn P w K mg base T 1 "is_kind" ["thing"] is_kind_s) (h_types_by : Dn P w K mg base T 13 "types_by" ["longest", "kind"] types_by_s) : FnOk P w K mg base (L2.CX P w) 14 f fd ["longest", "kind"] (spOf K mg T 2 kind_types_s) :=
  fn_pdD (N := ["longest", "kind"]) F ⟨rfl, rfl, rfl, by decide +kernel, rfl, by decide +kernel, by decide +kernel⟩ (by decide) fun G cd hK hmg hT hcd A outer s H E hr tk => by
    subst hK hmg hT
    have nd : (["longest", "kind"] : List Str).Nodup := by decide
    exact pds_cons (pds_drop (pd_calld rfl rfl h_need_longest tk (hr.mono (by omega)) (by rfl) (pd_acons (pd_var (pv 0)) (pd_anil)))) (pds_cons (pds_if (pd_not (pd_test (pd_calld rfl rfl h_is_kind tk (hr.mono (by omega)) (by rfl) (pd_acons (pd_var (pv 1)) (pd_anil))))) (pds_one (pds_raise rfl rfl tk x_NoKind.choose_spec.2 x_NoKind.choose_spec.1 rfl (by rfl))) (pds_nil)) (pds_one (pds_ret (pd_callTy call_tupF (fun_tup rfl) (by rfl) b_tuple (by rfl) (pd_acons (pd_calld rfl rfl h_types_by tk (hr.mono (by omega)) (by rfl) (pd_acons (pd_var (pv 0)) (pd_acons (pd_var (pv 1)) (pd_anil)))) (pd_anil))))))
theorem ok__law_mixed (F : L2.FunD K "_law_mixed" "_law_mixed" (defArgs (top 27)) (defBody (top 27)) (defScope (top 27)) [] [] f fd) (b_int : mg "int" = none) : FnOk P w K mg base (L2.CX P w) 1 f fd ["state"] (spOf K mg T 1 _law_mixed_s) :=
  fn_pdD (N := ["state", "prime", "turn", "found", "blend", "cell"]) F ⟨rfl, rfl, rfl, by decide +kernel, rfl, by decide +kernel, by decide +kernel⟩ (by decide) fun G cd hK hmg hT hcd A outer s H E hr tk => by
    subst hK hmg hT
    have nd : (["state", "prime", "turn", "found", "blend", "cell"] : List Str).Nodup := by decide
    exact pds_cons (pds_par rfl nd (i := 2) (j := 3) rfl rfl (by decide) rfl rfl (pd_acons (pd_bin op_addD opd_add (pd_stGet hr.u1 (pv 0) (fun _ _ _ => rfl)) (pd_const pe_int fun _ => rfl)) (pd_acons (pd_const pe_int fun _ => rfl) (pd_anil))) (by rfl)) (pds_cons (pds_stSet hr.u1 (pd_var (pv 2)) (pv 0) (fun _ _ _ _ => rfl) (fun _ _ => ⟨rfl, rfl⟩)) (pds_cons (pds_for (passes_of rfl) rfl (pdi_seq rfl (pd_lst (pd_acons (pd_const pe_int fun _ => rfl) (pd_acons (pd_const pe_int fun _ => rfl) (pd_acons (pd_const pe_int fun _ => rfl) (pd_acons (pd_const pe_int fun _ => rfl) (pd_anil))))))) (pdg_name (i := 1) nd rfl (.inl rfl)) (pds_cons (pds_set nd (i := 4) rfl (.inl rfl) (pd_bin op_addD opd_add (pd_bin op_mulD opd_mul (pd_const pe_int fun _ => rfl) (pd_var (pv 2))) (pd_bin op_fdivF opd_fdiv (pd_var (pv 1)) (pd_const pe_int fun _ => rfl)))) (pds_cons (pds_cells (passes_of rfl) rfl hr.u1 (pv 0) nd (t := 5) rfl (.inl rfl) (pds_one (pds_set nd (i := 4) rfl (.inl rfl) (pd_bin op_modD opd_mod (pd_callTy call_intF' fun_int (by rfl) b_int (by rfl) (pd_acons (pd_bin op_addD opd_add (pd_bin op_addD opd_add (pd_bin op_mulD opd_mul (pd_var (pv 4)) (pd_const pe_int fun _ => rfl)) (pd_var (pv 5))) (pd_var (pv 2))) (pd_anil))) (pd_var (pv 1)))))) (pds_one (pds_set nd (i := 3) rfl (.inl rfl) (pd_bin op_addD opd_add (pd_bin op_mulD opd_mul (pd_var (pv 3)) (pd_const pe_int fun _ => rfl)) (pd_bin op_modD opd_mod (pd_callTy call_intF' fun_int (by rfl) b_int (by rfl) (pd_acons (pd_bin op_powD opd_pow (pd_var (pv 4)) (pd_const pe_int fun _ => rfl)) (pd_anil))) (pd_var (pv 1))))))))) (pds_one (pds_ret (pd_var (pv 3))))))
theorem ok__law_draw (F : L2.FunD K "_law_draw" "_law_draw" (defArgs (top 28)) (defBody (top 28)) (defScope (top 28)) [] [] f fd) (b_int : mg "int" = none) (h__law_mixed : Dn P w K mg base T 1 "_law_mixed" ["state"] _law_mixed_s) : FnOk P w K mg base (L2.CX P w) 2 f fd ["state", "room"] (spOf K mg T 2 _law_draw_s) :=
  fn_pdD (N := ["state", "room", "found"]) F ⟨rfl, rfl, rfl, by decide +kernel, rfl, by decide +kernel, by decide +kernel⟩ (by decide) fun G cd hK hmg hT hcd A outer s H E hr tk => by
    subst hK hmg hT
    have nd : (["state", "room", "found"] : List Str).Nodup := by decide
    exact pds_cons (pds_if (pd_testC (op_eqD hr.u64) opd_eq (pd_stGet hr.u1 (pv 0) (fun _ _ _ => rfl)) (pd_const pe_int fun _ => rfl) (by rfl)) (pds_one (pds_stSet hr.u1 (pd_ifExp (pdt_great hr.u64 (pv 0)) (pd_popG hr.u1 (pv 0)) (pd_calld rfl rfl h__law_mixed tk (hr.mono (by omega)) (by rfl) (pd_acons (pd_var (pv 0)) (pd_anil)))) (pv 0) (fun _ _ _ _ => rfl) (fun _ _ => ⟨rfl, rfl⟩))) (pds_nil)) (pds_cons (pds_set nd (i := 2) rfl (.inl rfl) (pd_bin op_modD opd_mod (pd_callTy call_intF' fun_int (by rfl) b_int (by rfl) (pd_acons (pd_stGet hr.u1 (pv 0) (fun _ _ _ => rfl)) (pd_anil))) (pd_var (pv 1)))) (pds_cons (pds_stSet hr.u1 (pd_bin op_fdivF opd_fdiv (pd_stGet hr.u1 (pv 0) (fun _ _ _ => rfl)) (pd_var (pv 1))) (pv 0) (fun _ _ _ _ => rfl) (fun _ _ => ⟨rfl, rfl⟩)) (pds_one (pds_ret (pd_var (pv 2))))))
theorem ok__law_pick (F : L2.FunD K "_law_pick" "_law_pick" (defArgs (top 29)) (defBody (top 29)) (defScope (top 29)) [] [] f fd) (b_len : mg "len" = none) (h__law_draw : Dn P w K mg base T 2 "_law_draw" ["state", "room"] _law_draw_s) : FnOk P w K mg base (L2.CX P w) 3 f fd ["state", "some"] (spOf K mg T 2 _law_pick_s) :=
  fn_pdD (N := ["state", "some"]) F ⟨rfl, rfl, rfl, by decide +kernel, rfl, by decide +kernel, by decide +kernel⟩ (by decide) fun G cd hK hmg hT hcd A outer s H E hr tk => by
    subst hK hmg hT
    have nd : (["state", "some"] : List Str).Nodup := by decide
    exact pds_one (pds_ret (pd_ix (ix4 hr.u1) opd_ix (pd_var (pv 1)) (pd_calld rfl rfl h__law_draw tk (hr.mono (by omega)) (by rfl) (pd_acons (pd_var (pv 0)) (pd_acons (pd_callB call_lenA (fun_len rfl) (by rfl) b_len (by rfl) (pd_acons (pd_var (pv 1)) (pd_anil))) (pd_anil)))) (fun _ _ => rfl)))
theorem ok__law_is (F : L2.FunD K "_law_is" "_law_is" (defArgs (top 30)) (defBody (top 30)) (defScope (top 30)) [] [] f fd) (mf : mg "_law_is" = some (.ref f)) (b_dict : mg "dict" = none) (b_int : mg "int" = none) (b_isinstance : mg "isinstance" = none) (b_len : mg "len" = none) (b_list : mg "list" = none) (b_str : mg "str" = none) (b_tuple : mg "tuple" = none) (b_zip : mg "zip" = none) (isf : IsF K mg xns) : ∀ n : Nat, FnOk P w K mg base (L2.CX P w) (0 + n + 1) f fd ["found", "due"] (spOf K mg T 2 (recF _law_is_b n))
  | 0 => fn_never (N := ["found", "due", "one", "other"]) F ⟨rfl, rfl, rfl, by decide +kernel, rfl, by decide +kernel, by decide +kernel⟩
  | n + 1 => by
    have ih := dn_of F mf (ok__law_is F mf b_dict b_int b_isinstance b_len b_list b_str b_tuple b_zip isf n) (fun _ _ _ _ _ _ us hl => match us, hl with | [_, _], _ => rfl) (recF_len (fun _ => fnRun_len) n)
    exact fn_pdD (N := ["found", "due", "one", "other"]) F ⟨rfl, rfl, rfl, by decide +kernel, rfl, by decide +kernel, by decide +kernel⟩ (by decide) fun G cd hK hmg hT hcd A outer s H E hr tk => by
      subst hK hmg hT
      have nd : (["found", "due", "one", "other"] : List Str).Nodup := by decide
      exact pds_cons (pds_if (pd_test (pd_callB call_isiX (fun_isiX rfl rfl isf) (by rfl) b_isinstance (by rfl) (pd_acons (pd_var (pv 1)) (pd_acons (pd_tup (pd_acons (pd_ty (by rfl) b_tuple rfl) (pd_acons (pd_ty (by rfl) b_list rfl) (pd_anil)))) (pd_anil))))) (pds_cons (pds_if (PW.pt (pd_or (pd_testC (op_neD hr.u64) opd_ne (pd_callB call_isiX (fun_isiX rfl rfl isf) (by rfl) b_isinstance (by rfl) (pd_acons (pd_var (pv 1)) (pd_acons (pd_ty (by rfl) b_tuple rfl) (pd_anil)))) (pd_callB call_isiX (fun_isiX rfl rfl isf) (by rfl) b_isinstance (by rfl) (pd_acons (pd_var (pv 0)) (pd_acons (pd_ty (by rfl) b_tuple rfl) (pd_anil)))) (by rfl)) (pd_or (pd_testC (op_neD hr.u64) opd_ne (pd_callB call_isiX (fun_isiX rfl rfl isf) (by rfl) b_isinstance (by rfl) (pd_acons (pd_var (pv 1)) (pd_acons (pd_ty (by rfl) b_list rfl) (pd_anil)))) (pd_callB call_isiX (fun_isiX rfl rfl isf) (by rfl) b_isinstance (by rfl) (pd_acons (pd_var (pv 0)) (pd_acons (pd_ty (by rfl) b_list rfl) (pd_anil)))) (by rfl)) (pd_or1 (pd_testC (op_neD hr.u64) opd_ne (pd_callB call_lenA (fun_len rfl) (by rfl) b_len (by rfl) (pd_acons (pd_var (pv 0)) (pd_anil))) (pd_callB call_lenA (fun_len rfl) (by rfl) b_len (by rfl) (pd_acons (pd_var (pv 1)) (pd_anil))) (by rfl)))))) (pds_one (pds_ret (pd_const pe_bl fun _ => rfl))) (pds_nil)) (pds_one (pds_ret (pd_cmp (op_eqD hr.u64) opd_eq (pd_lcP rfl nd (pdi_zip rfl (by rfl) b_zip (pd_acons (pd_var (pv 0)) (pd_acons (pd_var (pv 1)) (pd_anil)))) (own := [("one", 2), ("other", 3)]) (blkOk_by (N := ["found", "due", "one", "other"]) (sc := defScope (top 30)) (by decide +kernel)) (by decide) (fun _ _ _ _ _ => pdg_pair rfl (pdg_cons (pdg_name (i := 2) nd rfl (.inl rfl)) (pdg_cons (pdg_name (i := 3) nd rfl (.inl rfl)) (pdg_nil)))) (fun _ _ _ _ _ => pdt_one (pd_not (pd_test (pd_calld rfl rfl ih PD.takes0 (hr.mono (by omega)) (by rfl) (pd_acons (pd_var (pv 2)) (pd_acons (pd_var (pv 3)) (pd_anil))))))) (fun _ _ _ _ _ => pd_const pe_int fun _ => rfl)) (pd_lst (pd_anil)) (by rfl))))) (pds_nil)) (pds_cons (pds_if (pd_test (pd_callB call_isiX (fun_isiX rfl rfl isf) (by rfl) b_isinstance (by rfl) (pd_acons (pd_var (pv 1)) (pd_acons (pd_ty (by rfl) b_dict rfl) (pd_anil))))) (pds_one (pds_ret (pd_vand (pd_callB call_isiX (fun_isiX rfl rfl isf) (by rfl) b_isinstance (by rfl) (pd_acons (pd_var (pv 0)) (pd_acons (pd_ty (by rfl) b_dict rfl) (pd_anil)))) (pd_one (pd_calld rfl rfl ih tk (hr.mono (by omega)) (by rfl) (pd_acons (pd_callTy (call_lstF rfl) (fun_lst rfl) (by rfl) b_list (by rfl) (pd_acons (pd_bad) (pd_anil))) (pd_acons (pd_callTy (call_lstF rfl) (fun_lst rfl) (by rfl) b_list (by rfl) (pd_acons (pd_bad) (pd_anil))) (pd_anil)))))))) (pds_nil)) (pds_cons (pds_if (PW.pt (pd_or (pd_testC op_is1 opd_is (pd_var (pv 1)) (pd_const pe_non fun _ => rfl) (by rfl)) (pd_or1 (pd_test (pd_callB call_isiX (fun_isiX rfl rfl isf) (by rfl) b_isinstance (by rfl) (pd_acons (pd_var (pv 1)) (pd_acons (pd_ty (by rfl) b_str rfl) (pd_anil)))))))) (pds_one (pds_ret (pd_vand (pd_cmp (op_eqD hr.u64) opd_eq (pd_callB call_isiX (fun_isiX rfl rfl isf) (by rfl) b_isinstance (by rfl) (pd_acons (pd_var (pv 0)) (pd_acons (pd_ty (by rfl) b_str rfl) (pd_anil)))) (pd_callB call_isiX (fun_isiX rfl rfl isf) (by rfl) b_isinstance (by rfl) (pd_acons (pd_var (pv 1)) (pd_acons (pd_ty (by rfl) b_str rfl) (pd_anil)))) (by rfl)) (pd_one (pd_cmp (op_eqD hr.u64) opd_eq (pd_var (pv 0)) (pd_var (pv 1)) (by rfl)))))) (pds_nil)) (pds_one (pds_ret (pd_vand (pd_callB call_isiX (fun_isiX rfl rfl isf) (by rfl) b_isinstance (by rfl) (pd_acons (pd_var (pv 0)) (pd_acons (pd_ty (by rfl) b_int rfl) (pd_anil)))) (pd_vand (pd_cmp (op_eqD hr.u64) opd_eq (pd_var (pv 0)) (pd_var (pv 1)) (by rfl)) (pd_vand (pd_cmp (op_eqD hr.u64) opd_eq (pd_cmp op_is1 opd_is (pd_var (pv 0)) (pd_const pe_bl fun _ => rfl) (by rfl)) (pd_cmp op_is1 opd_is (pd_var (pv 1)) (pd_const pe_bl fun _ => rfl) (by rfl)) (by rfl)) (pd_one (pd_cmp (op_eqD hr.u64) opd_eq (pd_cmp op_is1 opd_is (pd_var (pv 0)) (pd_const pe_bl fun _ => rfl) (by rfl)) (pd_cmp op_is1 opd_is (pd_var (pv 1)) (pd_const pe_bl fun _ => rfl) (by rfl)) (by rfl))))))))))
theorem ok__law_near (F : L2.FunD K "_law_near" "_law_near" (defArgs (top 31)) (defBody (top 31)) (defScope (top 31)) [] [] f fd) (mf : mg "_law_near" = some (.ref f)) (b_int : mg "int" = none) (b_isinstance : mg "isinstance" = none) (b_len : mg "len" = none) (b_list : mg "list" = none) (b_str : mg "str" = none) (b_tuple : mg "tuple" = none) (isf : IsF K mg xns) (h__law_draw : Dn P w K mg base T 2 "_law_draw" ["state", "room"] _law_draw_s) (h__law_pick : Dn P w K mg base T 3 "_law_pick" ["state", "some"] _law_pick_s) : ∀ n : Nat, FnOk P w K mg base (L2.CX P w) (3 + n + 1) f fd ["state", "value"] (spOf K mg T 2 (recF _law_near_b n))
  | 0 => fn_never (N := ["state", "value", "some", "at"]) F ⟨rfl, rfl, rfl, by decide +kernel, rfl, by decide +kernel, by decide +kernel⟩
  | n + 1 => by
    have ih := dn_of F mf (ok__law_near F mf b_int b_isinstance b_len b_list b_str b_tuple isf h__law_draw h__law_pick n) (fun _ _ _ _ _ _ us hl => match us, hl with | [_, _], _ => rfl) (recF_len (fun _ => fnRun_len) n)
    exact fn_pdD (N := ["state", "value", "some", "at"]) F ⟨rfl, rfl, rfl, by decide +kernel, rfl, by decide +kernel, by decide +kernel⟩ (by decide) fun G cd hK hmg hT hcd A outer s H E hr tk => by
      subst hK hmg hT
      have nd : (["state", "value", "some", "at"] : List Str).Nodup := by decide
      exact pds_cons (pds_if (PW.pt (pd_and (pd_test (pd_callB call_isiX (fun_isiX rfl rfl isf) (by rfl) b_isinstance (by rfl) (pd_acons (pd_var (pv 1)) (pd_acons (pd_ty (by rfl) b_tuple rfl) (pd_anil))))) (pd_and (pd_testC (op_neD hr.u64) opd_ne (pd_var (pv 1)) (pd_tup (pd_anil)) (by rfl)) (pd_and1 (pd_testC op_gtD opd_cmpI (pd_calld rfl rfl h__law_draw tk (hr.mono (by omega)) (by rfl) (pd_acons (pd_var (pv 0)) (pd_acons (pd_const pe_int fun _ => rfl) (pd_anil)))) (pd_const pe_int fun _ => rfl) (by rfl)))))) (pds_cons (pds_set nd (i := 3) rfl (.inl rfl) (pd_calld rfl rfl h__law_draw tk (hr.mono (by omega)) (by rfl) (pd_acons (pd_var (pv 0)) (pd_acons (pd_callB call_lenA (fun_len rfl) (by rfl) b_len (by rfl) (pd_acons (pd_var (pv 1)) (pd_anil))) (pd_anil))))) (pds_one (pds_ret (pd_bin op_addD opd_add (pd_bin op_addD opd_add (pd_slice sl3 opd_sl (pd_var (pv 1)) (pd_onone) (pd_osome (pd_var (pv 3)))) (pd_tup (pd_acons (pd_calld rfl rfl ih tk (hr.mono (by omega)) (by rfl) (pd_acons (pd_var (pv 0)) (pd_acons (pd_ix (ix4 hr.u1) opd_ix (pd_var (pv 1)) (pd_var (pv 3)) (fun _ _ => rfl)) (pd_anil)))) (pd_anil)))) (pd_slice sl3 opd_sl (pd_var (pv 1)) (pd_osome (pd_bin op_addD opd_add (pd_var (pv 3)) (pd_const pe_int fun _ => rfl))) (pd_onone)))))) (pds_nil)) (pds_cons (pds_if (pd_test (pd_callB call_isiX (fun_isiX rfl rfl isf) (by rfl) b_isinstance (by rfl) (pd_acons (pd_var (pv 1)) (pd_acons (pd_ty (by rfl) b_int rfl) (pd_anil))))) (pds_one (pds_ret (pd_calld rfl rfl h__law_pick tk (hr.mono (by omega)) (by rfl) (pd_acons (pd_var (pv 0)) (pd_acons (pd_lst (pd_acons (pd_bin op_addD opd_add (pd_var (pv 1)) (pd_const pe_int fun _ => rfl)) (pd_acons (pd_bin op_subD opd_sub (pd_var (pv 1)) (pd_const pe_int fun _ => rfl)) (pd_acons (pd_bin op_subD opd_sub (pd_const pe_int fun _ => rfl) (pd_var (pv 1))) (pd_acons (pd_const pe_bl fun _ => rfl) (pd_acons (pd_const pe_non fun _ => rfl) (pd_acons (pd_tup (pd_acons (pd_var (pv 1)) (pd_anil))) (pd_acons (pd_callTy call_strF fun_str (by rfl) b_str (by rfl) (pd_acons (pd_var (pv 1)) (pd_anil))) (pd_anil))))))))) (pd_anil)))))) (pds_nil)) (pds_cons (pds_set nd (i := 2) rfl (.inl rfl) (pd_ifExp (pd_test (pd_callB call_isiX (fun_isiX rfl rfl isf) (by rfl) b_isinstance (by rfl) (pd_acons (pd_var (pv 1)) (pd_acons (pd_ty (by rfl) b_tuple rfl) (pd_anil))))) (pd_callTy (call_lstF rfl) (fun_lst rfl) (by rfl) b_list (by rfl) (pd_acons (pd_var (pv 1)) (pd_anil))) (pd_lst (pd_acons (pd_var (pv 1)) (pd_anil))))) (pds_one (pds_ret (pd_calld rfl rfl h__law_pick tk (hr.mono (by omega)) (by rfl) (pd_acons (pd_var (pv 0)) (pd_acons (pd_lst (pd_acons (pd_const pe_non fun _ => rfl) (pd_acons (pd_var (pv 2)) (pd_acons (pd_callTy call_tupF (fun_tup rfl) (by rfl) b_tuple (by rfl) (pd_acons (pd_bin op_addD opd_add (pd_var (pv 2)) (pd_slice sl3 opd_sl (pd_var (pv 2)) (pd_osome (pd_un un_neg und_neg (pd_const pe_int fun _ => rfl))) (pd_onone))) (pd_anil))) (pd_acons (pd_callTy call_tupF (fun_tup rfl) (by rfl) b_tuple (by rfl) (pd_acons (pd_slice sl3 opd_sl (pd_var (pv 2)) (pd_onone) (pd_osome (pd_un un_neg und_neg (pd_const pe_int fun _ => rfl)))) (pd_anil))) (pd_acons (pd_callTy call_tupF (fun_tup rfl) (by rfl) b_tuple (by rfl) (pd_acons (pd_rev (pd_var (pv 2))) (pd_anil))) (pd_acons (pd_callTy call_tupF (fun_tup rfl) (by rfl) b_tuple (by rfl) (pd_acons (pd_var (pv 2)) (pd_anil))) (pd_acons (pd_const pe_int fun _ => rfl) (pd_acons (pd_tup (pd_acons (pd_const pe_int fun _ => rfl) (pd_acons (pd_const pe_int fun _ => rfl) (pd_anil)))) (pd_anil)))))))))) (pd_anil))))))))
theorem ok__law_common (F : L2.FunD K "_law_common" "_law_common" (defArgs (top 33)) (defBody (top 33)) (defScope (top 33)) [] [] f fd) (b_int : mg "int" = none) : FnOk P w K mg base (L2.CX P w) 1 f fd ["one", "other"] (spOf K mg T 2 _law_common_s) :=
  fn_pdD (N := ["one", "other"]) F ⟨rfl, rfl, rfl, by decide +kernel, rfl, by decide +kernel, by decide +kernel⟩ (by decide) fun G cd hK hmg hT hcd A outer s H E hr tk => by
    subst hK hmg hT
    have nd : (["one", "other"] : List Str).Nodup := by decide
    exact pds_cons (pds_while 200 (passes_of rfl) (pd_testC (op_neD hr.u64) opd_ne (pd_var (pv 1)) (pd_const pe_int fun _ => rfl) (by rfl)) (pds_one (pds_par rfl nd (i := 0) (j := 1) rfl rfl (by decide) rfl rfl (pd_acons (pd_var (pv 1)) (pd_acons (pd_bin op_modD opd_mod (pd_callTy call_intF' fun_int (by rfl) b_int (by rfl) (pd_acons (pd_var (pv 0)) (pd_anil))) (pd_var (pv 1))) (pd_anil))) (by rfl)))) (pds_one (pds_ret (pd_var (pv 0))))
theorem ok__law_no (F : L2.FunD K "_law_no" "_law_no" (defArgs (top 34)) (defBody (top 34)) (defScope (top 34)) [] [] f fd) (b_abs : mg "abs" = none) (h__law_common : Dn P w K mg base T 1 "_law_common" ["one", "other"] _law_common_s) : FnOk P w K mg base (L2.CX P w) 2 f fd ["upper", "lower"] (spOf K mg T 2 _law_no_s) :=
  fn_pdD (N := ["upper", "lower", "by"]) F ⟨rfl, rfl, rfl, by decide +kernel, rfl, by decide +kernel, by decide +kernel⟩ (by decide) fun G cd hK hmg hT hcd A outer s H E hr tk => by
    subst hK hmg hT
    have nd : (["upper", "lower", "by"] : List Str).Nodup := by decide
    exact pds_cons (pds_set nd (i := 2) rfl (.inl rfl) (pd_bin op_mulD opd_mul (pd_calld rfl rfl h__law_common tk (hr.mono (by omega)) (by rfl) (pd_acons (pd_callB call_abs fun_abs (by rfl) b_abs (by rfl) (pd_acons (pd_var (pv 0)) (pd_anil))) (pd_acons (pd_callB call_abs fun_abs (by rfl) b_abs (by rfl) (pd_acons (pd_var (pv 1)) (pd_anil))) (pd_anil)))) (pd_ifExp (pd_testC op_gtD opd_cmpI (pd_var (pv 1)) (pd_const pe_int fun _ => rfl) (by rfl)) (pd_const pe_int fun _ => rfl) (pd_bin op_subD opd_sub (pd_const pe_int fun _ => rfl) (pd_const pe_int fun _ => rfl))))) (pds_one (pds_ret (pd_tup (pd_acons (pd_bin op_fdivF opd_fdiv (pd_var (pv 0)) (pd_var (pv 2))) (pd_acons (pd_bin op_fdivF opd_fdiv (pd_var (pv 1)) (pd_var (pv 2))) (pd_anil))))))
theorem ok__law_plus (F : L2.FunD K "_law_plus" "_law_plus" (defArgs (top 35)) (defBody (top 35)) (defScope (top 35)) [] [] f fd) (h__law_no : Dn P w K mg base T 2 "_law_no" ["upper", "lower"] _law_no_s) : FnOk P w K mg base (L2.CX P w) 3 f fd ["one", "other"] (spOf K mg T 2 _law_plus_s) :=
  fn_pdD (N := ["one", "other"]) F ⟨rfl, rfl, rfl, by decide +kernel, rfl, by decide +kernel, by decide +kernel⟩ (by decide) fun G cd hK hmg hT hcd A outer s H E hr tk => by
    subst hK hmg hT
    have nd : (["one", "other"] : List Str).Nodup := by decide
    exact pds_one (pds_ret (pd_calld rfl rfl h__law_no tk (hr.mono (by omega)) (by rfl) (pd_acons (pd_bin op_addD opd_add (pd_bin op_mulD opd_mul (pd_ix (ix4 hr.u1) opd_ix (pd_var (pv 0)) (pd_const pe_int fun _ => rfl) (fun _ _ => rfl)) (pd_ix (ix4 hr.u1) opd_ix (pd_var (pv 1)) (pd_const pe_int fun _ => rfl) (fun _ _ => rfl))) (pd_bin op_mulD opd_mul (pd_ix (ix4 hr.u1) opd_ix (pd_var (pv 1)) (pd_const pe_int fun _ => rfl) (fun _ _ => rfl)) (pd_ix (ix4 hr.u1) opd_ix (pd_var (pv 0)) (pd_const pe_int fun _ => rfl) (fun _ _ => rfl)))) (pd_acons (pd_bin op_mulD opd_mul (pd_ix (ix4 hr.u1) opd_ix (pd_var (pv 0)) (pd_const pe_int fun _ => rfl) (fun _ _ => rfl)) (pd_ix (ix4 hr.u1) opd_ix (pd_var (pv 1)) (pd_const pe_int fun _ => rfl) (fun _ _ => rfl))) (pd_anil)))))
theorem ok__law_types_of (F : L2.FunD K "_law_types_of" "_law_types_of" (defArgs (top 36)) (defBody (top 36)) (defScope (top 36)) [] [] f fd) (b_len : mg "len" = none) (b_range : mg "range" = none) (b_sorted : mg "sorted" = none) : FnOk P w K mg base (L2.CX P w) 1 f fd ["size"] (spOf K mg T 1 _law_types_of_s) :=
  fn_pdD (N := ["size", "found", "line", "length", "rings", "rest"]) F ⟨rfl, rfl, rfl, by decide +kernel, rfl, by decide +kernel, by decide +kernel⟩ (by decide) fun G cd hK hmg hT hcd A outer s H E hr tk => by
    subst hK hmg hT
    have nd : (["size", "found", "line", "length", "rings", "rest"] : List Str).Nodup := by decide
    exact pds_cons (pds_parF rfl nd (i := 1) (j := 2) rfl rfl (by decide) rfl rfl (pd_lst (pd_anil)) (pd_lst (pd_acons (pd_tup (pd_acons (pd_tup (pd_anil)) (pd_acons (pd_var (pv 0)) (pd_anil)))) (pd_anil))) (by rfl)) (pds_cons (pds_while 200 (passes_of rfl) (pd_testC (op_neD hr.u64) opd_ne (pd_var (pv 2)) (pd_lst (pd_anil)) (by rfl)) (pds_cons (pds_bind (pd_mut0 PySem.F.slot_list_pop PySem.F.type_list_pop mt_popA mut_pop (pv 2)) (pdg_tup rfl (pdg_cons (pdg_name (i := 4) nd rfl (.inl rfl)) (pdg_cons (pdg_name (i := 5) nd rfl (.inl rfl)) (pdg_nil))) (hK := rfl))) (pds_cons (pds_if (pd_testC (op_eqD hr.u64) opd_eq (pd_var (pv 5)) (pd_const pe_int fun _ => rfl) (by rfl)) (pds_one (pds_drop (pd_mut PySem.F.slot_list_append PySem.F.type_list_append mt_append mut_app (pv 1) (pd_acons (pd_var (pv 4)) (pd_anil))))) (pds_nil)) (pds_one (pds_for (passes_of rfl) rfl (pdi_range2 (by rfl) b_range (pd_acons (pd_const pe_int fun _ => rfl) (pd_acons (pd_bin op_addD opd_add (pd_var (pv 5)) (pd_const pe_int fun _ => rfl)) (pd_anil)))) (pdg_name (i := 3) nd rfl (.inl rfl)) (pds_one (pds_if (PW.pt (pd_or (pd_testC (op_eqD hr.u64) opd_eq (pd_var (pv 4)) (pd_tup (pd_anil)) (by rfl)) (pd_or1 (pd_testC op_leI opd_cmpI (pd_var (pv 3)) (pd_ix (ix4 hr.u1) opd_ix (pd_var (pv 4)) (pd_bin op_subD opd_sub (pd_callB call_lenA (fun_len rfl) (by rfl) b_len (by rfl) (pd_acons (pd_var (pv 4)) (pd_anil))) (pd_const pe_int fun _ => rfl)) (fun _ _ => rfl)) (by rfl))))) (pds_one (pds_drop (pd_mut PySem.F.slot_list_append PySem.F.type_list_append mt_append mut_app (pv 2) (pd_acons (pd_tup (pd_acons (pd_bin op_addD opd_add (pd_var (pv 4)) (pd_tup (pd_acons (pd_var (pv 3)) (pd_anil)))) (pd_acons (pd_bin op_subD opd_sub (pd_var (pv 5)) (pd_var (pv 3))) (pd_anil)))) (pd_anil))))) (pds_nil)))))))) (pds_one (pds_ret (pd_callB (call_sortD rfl hr.u64) fun_sort (by rfl) b_sorted (by rfl) (pd_acons (pd_var (pv 1)) (pd_anil))))))
theorem ok__law_types (F : L2.FunD K "_law_types" "_law_types" (defArgs (top 37)) (defBody (top 37)) (defScope (top 37)) [] [] f fd) (b_range : mg "range" = none) (h__law_types_of : Dn P w K mg base T 1 "_law_types_of" ["size"] _law_types_of_s) : FnOk P w K mg base (L2.CX P w) 2 f fd ["longest"] (spOf K mg T 1 _law_types_s) :=
  fn_pdD (N := ["longest", "found", "size"]) F ⟨rfl, rfl, rfl, by decide +kernel, rfl, by decide +kernel, by decide +kernel⟩ (by decide) fun G cd hK hmg hT hcd A outer s H E hr tk => by
    subst hK hmg hT
    have nd : (["longest", "found", "size"] : List Str).Nodup := by decide
    exact pds_cons (pds_set nd (i := 1) rfl (.inl rfl) (pd_lst (pd_anil))) (pds_cons (pds_for (passes_of rfl) rfl (pdi_range1 (by rfl) b_range (pd_acons (pd_bin op_addD opd_add (pd_var (pv 0)) (pd_const pe_int fun _ => rfl)) (pd_anil))) (pdg_name (i := 2) nd rfl (.inl rfl)) (pds_one (pds_ext nd (i := 1) rfl (.inl rfl) (pd_calld rfl rfl h__law_types_of tk (hr.mono (by omega)) (by rfl) (pd_acons (pd_var (pv 2)) (pd_anil)))))) (pds_one (pds_ret (pd_var (pv 1)))))
theorem ok__law_weight (F : L2.FunD K "_law_weight" "_law_weight" (defArgs (top 38)) (defBody (top 38)) (defScope (top 38)) [] [] f fd) (b_dict : mg "dict" = none) (b_range : mg "range" = none) : FnOk P w K mg base (L2.CX P w) 1 f fd ["rings"] (spOf K mg T 1 _law_weight_s) :=
  fn_pdD (N := ["rings", "found", "length", "many", "one"]) F ⟨rfl, rfl, rfl, by decide +kernel, rfl, by decide +kernel, by decide +kernel⟩ (by decide) fun G cd hK hmg hT hcd A outer s H E hr tk => by
    subst hK hmg hT
    have nd : (["rings", "found", "length", "many", "one"] : List Str).Nodup := by decide
    exact pds_cons (pds_set nd (i := 1) rfl (.inl rfl) (pd_const pe_int fun _ => rfl)) (pds_cons (pds_for (passes_of rfl) rfl (pdi_keysN (pd_callTy (call_dictP rfl) (fun_dic rfl) (by rfl) b_dict (by rfl) (pd_acons (pd_lc rfl nd (pdi_seq rfl (pd_var (pv 0))) (own := [("one", 4)]) (blkOk_by (N := ["rings", "found", "length", "many", "one"]) (sc := defScope (top 38)) (by decide +kernel)) (by decide) (fun _ _ _ _ _ => pdg_name (i := 4) nd rfl (.inl rfl)) (fun _ _ _ _ _ => pdt_nil) (fun _ _ _ _ _ => pd_tup (pd_acons (pd_var (pv 4)) (pd_acons (pd_const pe_bl fun _ => rfl) (pd_anil))))) (pd_anil)))) (pdg_name (i := 2) nd rfl (.inl rfl)) (pds_one (pds_for (passes_of rfl) rfl (pdi_range2 (by rfl) b_range (pd_acons (pd_const pe_int fun _ => rfl) (pd_acons (pd_bin op_addD opd_add (pd_meth (kind_tup rfl) (meth_cnt rfl) ty_tupR PySem.F.plainAttrs_tuple PySem.F.slot_tuple_count PySem.F.type_tuple_count (mt_cntT hr.u64) (pd_var (pv 0)) (pd_acons (pd_var (pv 2)) (pd_anil))) (pd_const pe_int fun _ => rfl)) (pd_anil)))) (pdg_name (i := 3) nd rfl (.inl rfl)) (pds_one (pds_set nd (i := 1) rfl (.inl rfl) (pd_bin op_mulD opd_mul (pd_bin op_mulD opd_mul (pd_var (pv 1)) (pd_var (pv 2))) (pd_var (pv 3)))))))) (pds_one (pds_ret (pd_var (pv 1)))))
theorem ok__law_partings (F : L2.FunD K "_law_partings" "_law_partings" (defArgs (top 39)) (defBody (top 39)) (defScope (top 39)) [] [] f fd)  : FnOk P w K mg base (L2.CX P w) 1 f fd ["rings"] (spOf K mg T 1 _law_partings_s) :=
  fn_pdD (N := ["rings", "found", "length", "longer", "one", "other"]) F ⟨rfl, rfl, rfl, by decide +kernel, rfl, by decide +kernel, by decide +kernel⟩ (by decide) fun G cd hK hmg hT hcd A outer s H E hr tk => by
    subst hK hmg hT
    have nd : (["rings", "found", "length", "longer", "one", "other"] : List Str).Nodup := by decide
    exact pds_cons (pds_set nd (i := 1) rfl (.inl rfl) (pd_lst (pd_acons (pd_tup (pd_acons (pd_tup (pd_anil)) (pd_acons (pd_tup (pd_anil)) (pd_anil)))) (pd_anil)))) (pds_cons (pds_for (passes_of rfl) rfl (pdi_seq rfl (pd_var (pv 0))) (pdg_name (i := 2) nd rfl (.inl rfl)) (pds_cons (pds_set nd (i := 3) rfl (.inl rfl) (pd_lst (pd_anil))) (pds_cons (pds_for (passes_of rfl) rfl (pdi_seq rfl (pd_var (pv 1))) (pdg_tup rfl (pdg_cons (pdg_name (i := 4) nd rfl (.inl rfl)) (pdg_cons (pdg_name (i := 5) nd rfl (.inl rfl)) (pdg_nil))) (hK := rfl)) (pds_one (pds_ext nd (i := 3) rfl (.inl rfl) (pd_lst (pd_acons (pd_tup (pd_acons (pd_bin op_addD opd_add (pd_var (pv 4)) (pd_tup (pd_acons (pd_var (pv 2)) (pd_anil)))) (pd_acons (pd_var (pv 5)) (pd_anil)))) (pd_acons (pd_tup (pd_acons (pd_var (pv 4)) (pd_acons (pd_bin op_addD opd_add (pd_var (pv 5)) (pd_tup (pd_acons (pd_var (pv 2)) (pd_anil)))) (pd_anil)))) (pd_anil))))))) (pds_one (pds_set nd (i := 1) rfl (.inl rfl) (pd_var (pv 3))))))) (pds_one (pds_ret (pd_var (pv 1)))))
theorem ok__law_is_own (F : L2.FunD K "_law_is_own" "_law_is_own" (defArgs (top 40)) (defBody (top 40)) (defScope (top 40)) [] [] f fd) (b_int : mg "int" = none) (b_isinstance : mg "isinstance" = none) (b_sum : mg "sum" = none) (b_tuple : mg "tuple" = none) (b_zip : mg "zip" = none) (isf : IsF K mg xns) : FnOk P w K mg base (L2.CX P w) 1 f fd ["thing"] (spOf K mg T 1 _law_is_own_s) :=
  fn_pdD (N := ["thing", "one", "other"]) F ⟨rfl, rfl, rfl, by decide +kernel, rfl, by decide +kernel, by decide +kernel⟩ (by decide) fun G cd hK hmg hT hcd A outer s H E hr tk => by
    subst hK hmg hT
    have nd : (["thing", "one", "other"] : List Str).Nodup := by decide
    exact pds_cons (pds_if (PW.pt (pd_or (pd_not (pd_test (pd_callB call_isiX (fun_isiX rfl rfl isf) (by rfl) b_isinstance (by rfl) (pd_acons (pd_var (pv 0)) (pd_acons (pd_ty (by rfl) b_tuple rfl) (pd_anil)))))) (pd_or1 (pd_testC (op_neD hr.u64) opd_ne (pd_lc rfl nd (pdi_seq rfl (pd_var (pv 0))) (own := [("one", 1)]) (blkOk_by (N := ["thing", "one", "other"]) (sc := defScope (top 40)) (by decide +kernel)) (by decide) (fun _ _ _ _ _ => pdg_name (i := 1) nd rfl (.inl rfl)) (fun _ _ _ _ _ => pdt_one (PW.pt (pd_or (pd_not (pd_test (pd_callB call_isiX (fun_isiX rfl rfl isf) (by rfl) b_isinstance (by rfl) (pd_acons (pd_var (pv 1)) (pd_acons (pd_ty (by rfl) b_int rfl) (pd_anil)))))) (pd_or (pd_testC op_is1 opd_is (pd_var (pv 1)) (pd_const pe_bl fun _ => rfl) (by rfl)) (pd_or (pd_testC op_is1 opd_is (pd_var (pv 1)) (pd_const pe_bl fun _ => rfl) (by rfl)) (pd_or1 (pd_testC op_ltI opd_cmpI (pd_var (pv 1)) (pd_const pe_int fun _ => rfl) (by rfl)))))))) (fun _ _ _ _ _ => pd_const pe_int fun _ => rfl)) (pd_lst (pd_anil)) (by rfl))))) (pds_one (pds_ret (pd_const pe_bl fun _ => rfl))) (pds_nil)) (pds_one (pds_ret (pd_vand (pd_cmp op_leI opd_cmpI (pd_callB (call_sumA rfl) (fun_sum rfl) (by rfl) b_sum (by rfl) (pd_acons (pd_var (pv 0)) (pd_anil))) (pd_const pe_int fun _ => rfl) (by rfl)) (pd_one (pd_cmp (op_eqD hr.u64) opd_eq (pd_lcP rfl nd (pdi_zip rfl (by rfl) b_zip (pd_acons (pd_var (pv 0)) (pd_acons (pd_slice sl3 opd_sl (pd_var (pv 0)) (pd_osome (pd_const pe_int fun _ => rfl)) (pd_onone)) (pd_anil)))) (own := [("one", 1), ("other", 2)]) (blkOk_by (N := ["thing", "one", "other"]) (sc := defScope (top 40)) (by decide +kernel)) (by decide) (fun _ _ _ _ _ => pdg_pair rfl (pdg_cons (pdg_name (i := 1) nd rfl (.inl rfl)) (pdg_cons (pdg_name (i := 2) nd rfl (.inl rfl)) (pdg_nil)))) (fun _ _ _ _ _ => pdt_one (pd_testC op_ltI opd_cmpI (pd_var (pv 1)) (pd_var (pv 2)) (by rfl))) (fun _ _ _ _ _ => pd_const pe_int fun _ => rfl)) (pd_lst (pd_anil)) (by rfl))))))
theorem ok_law (F : L2.FunD K "law" "law" (defArgs (top 41)) (defBody (top 41)) (defScope (top 41)) [] [] f fd) (plain : ∀ ns : List Int, ns.length ≤ 63 → ∃ e S, law_m (lawE 13 ns) (S0 ns) = .rt (.val (.bl true)) e S) {fb : Addr} {fdb : FuncData} (hB : FnOk P w K mg base (L2.CX P w) 2 fb fdb ["script"] (spBegun K T)) (hmb : mg "_law_begun" = some (.ref fb)) (hkb : PySem.W.keepIn K (.ref fb) = true) (hbb : Binds K fdb ["script"] []) (ct : CtF K mg xns) {fc : Addr} {fdc : FuncData} (Fc : L2.FunD K "_law_caught" "_law_caught" (defArgs (top 32)) (defBody (top 32)) (defScope (top 32)) [] [] fc fdc) (mc : mg "_law_caught" = some (.ref fc)) (k_NoKind : ∃ C, mg "NoKind" = some (.ref C)) (k_NoSize : ∃ C, mg "NoSize" = some (.ref C)) (k_NoType : ∃ C, mg "NoType" = some (.ref C)) (b_isinstance : mg "isinstance" = none) (b_len : mg "len" = none) (b_min : mg "min" = none) (b_range : mg "range" = none) (b_tuple : mg "tuple" = none) (isf : IsF K mg xns) (hk_kind_types_kind_longest : DnK P w K mg base T 14 "kind_types" ["longest", "kind"] ["kind", "longest"] (fun {_} us ws => match us, ws with | [], [x0, x1] => [x1, x0] | _, _ => []) kind_types_s) {cc Pt : Addr} (hcc : fd.code = .ref cc) (TB : LamX.TabB base mg cc Pt) (hTT : T = [(Pt, (envOfC "law" (defScope (top 41)) 0 0 .none).qual ++ "<lambda>")]) (h__law_types : Dn P w K mg base T 2 "_law_types" ["longest"] _law_types_s) (h__law_is : Dn P w K mg base T 11 "_law_is" ["found", "due"] (recF _law_is_b 10)) (h_kind_types : Dn P w K mg base T 14 "kind_types" ["longest", "kind"] kind_types_s) (h_types : Dn P w K mg base T 13 "types" ["longest"] types_s) (h__law_types_of : Dn P w K mg base T 1 "_law_types_of" ["size"] _law_types_of_s) (h__law_partings : Dn P w K mg base T 1 "_law_partings" ["rings"] _law_partings_s) (h__law_weight : Dn P w K mg base T 1 "_law_weight" ["rings"] _law_weight_s) (h_partings : Dn P w K mg base T 4 "partings" ["rings"] partings_s) (h_weight : Dn P w K mg base T 4 "weight" ["rings"] weight_s) (h_is_type : Dn P w K mg base T 2 "is_type" ["thing"] is_type_s) (h__law_plus : Dn P w K mg base T 3 "_law_plus" ["one", "other"] _law_plus_s) (h__law_near : Dn P w K mg base T 14 "_law_near" ["state", "value"] (recF _law_near_b 10)) (h__law_pick : Dn P w K mg base T 3 "_law_pick" ["state", "some"] _law_pick_s) (h__law_is_own : Dn P w K mg base T 1 "_law_is_own" ["thing"] _law_is_own_s) : FnOk P w K mg base (L2.CX P w) 17 f fd ["script"] (spLaw K T) :=
  law_ok (N := ["longest", "size", "wrong", "told", "turn", "thing", "due", "total", "rings", "errors", "error"]) F ⟨rfl, rfl, rfl, by decide +kernel, rfl, by decide +kernel, by decide +kernel⟩ rfl rfl rfl hB hmb hkb hbb (by omega) (fun G cd hK hmg hT hcd A outer s H E hr tk => by
    subst hK hmg hT
    have nd : (["script", "state", "longest", "size", "wrong", "told", "turn", "thing", "due", "total", "rings", "errors", "error"] : List Str).Nodup := by decide
    have hmT : (Pt, (envOfC "law" (defScope (top 41)) 0 0 .none).qual ++ "<lambda>") ∈ G.T := by rw [hTT]; exact .head _
    have hu : ∀ p ∈ G.T, p.1 = Pt → p.2 = (envOfC "law" (defScope (top 41)) 0 0 .none).qual ++ "<lambda>" := fun p hp _ => by rw [hTT] at hp; rw [List.mem_singleton.mp hp]
    exact pds_cons (pds_for (passes_of rfl) rfl (pdi_range2 (by rfl) b_range (pd_acons (pd_const pe_int fun _ => rfl) (pd_acons (pd_const pe_int fun _ => rfl) (pd_anil)))) (pdg_name (i := 2) nd rfl (.inr rfl)) (pds_cons (pds_set nd (i := 8) rfl (.inr rfl) (pd_callTy call_tupF (fun_tup rfl) (by rfl) b_tuple (by rfl) (pd_acons (pd_calld rfl rfl h__law_types tk (hr.mono (by omega)) (by rfl) (pd_acons (pd_var (pv 2)) (pd_anil))) (pd_anil)))) (pds_cons (pds_if (pd_not (pd_test (pd_calld rfl rfl h__law_is tk (hr.mono (by omega)) (by rfl) (pd_acons (pd_lst (pd_acons (pd_calld rfl rfl h_types tk (hr.mono (by omega)) (by rfl) (pd_acons (pd_var (pv 2)) (pd_anil))) (pd_acons (pd_calld rfl rfl h_kind_types tk (hr.mono (by omega)) (by rfl) (pd_acons (pd_var (pv 2)) (pd_acons (pd_const pe_str fun _ => rfl) (pd_anil)))) (pd_acons (pd_callK0 rfl rfl hk_kind_types_kind_longest tk (hr.mono (by omega)) (by rfl) (pdk_cons (pd_const pe_str fun _ => rfl) (pdk_cons (pd_var (pv 2)) (pdk_nil)))) (pd_anil))))) (pd_acons (pd_lst (pd_acons (pd_var (pv 8)) (pd_acons (pd_var (pv 8)) (pd_acons (pd_slice sl3 opd_sl (pd_var (pv 8)) (pd_osome (pd_const pe_int fun _ => rfl)) (pd_onone)) (pd_anil))))) (pd_anil)))))) (pds_one (pds_ret (pd_const pe_bl fun _ => rfl))) (pds_nil)) (pds_one (pds_for (passes_of rfl) rfl (pdi_seq rfl (pd_lst (pd_acons (pd_const pe_non fun _ => rfl) (pd_acons (pd_const pe_str fun _ => rfl) (pd_acons (pd_const pe_str fun _ => rfl) (pd_acons (pd_const pe_str fun _ => rfl) (pd_acons (pd_const pe_int fun _ => rfl) (pd_acons (pd_const pe_bl fun _ => rfl) (pd_anil))))))))) (pdg_name (i := 4) nd rfl (.inr rfl)) (pds_one (pds_if (pd_not (pd_test (pd_callB call_isiX (fun_isiX rfl rfl isf) (by rfl) b_isinstance (by rfl) (pd_acons (caught_by Fc mc ct (by rfl) (fun _ _ _ _ _ _ us hl => match us, hl with | [_], _ => rfl) ⟨rfl, rfl, rfl, by decide +kernel, rfl, by decide +kernel, by decide +kernel⟩ ⟨rfl, rfl, rfl, rfl⟩ rfl (by rfl) TB (hcd.symm.trans hcc) hmT hu hr (show LamX.lamSB (defScope (top 41)) _ = true by decide +kernel) rfl (fun _ _ _ _ _ => rfl) (fun A outer s H E f c' hr tk => pd_calld rfl rfl h_kind_types tk (hr.mono (by omega)) (by rfl) (pd_acons (pd_var (pv 2)) (pd_acons (pd_var (pv 4)) (pd_anil))))) (pd_acons (pd_cls rfl k_NoKind.choose_spec (by rfl)) (pd_anil)))))) (pds_one (pds_ret (pd_const pe_bl fun _ => rfl))) (pds_nil)))))))) (pds_cons (pds_for (passes_of rfl) rfl (pdi_range1 (by rfl) b_range (pd_acons (pd_const pe_int fun _ => rfl) (pd_anil))) (pdg_name (i := 3) nd rfl (.inl rfl)) (pds_cons (pds_set nd (i := 9) rfl (.inl rfl) (pd_tup (pd_acons (pd_const pe_int fun _ => rfl) (pd_acons (pd_const pe_int fun _ => rfl) (pd_anil))))) (pds_cons (pds_for (passes_of rfl) rfl (pdi_seq rfl (pd_calld rfl rfl h__law_types_of tk (hr.mono (by omega)) (by rfl) (pd_acons (pd_var (pv 3)) (pd_anil)))) (pdg_name (i := 10) nd rfl (.inl rfl)) (pds_cons (pds_if (PW.pt (pd_or (pd_not (pd_test (pd_calld rfl rfl h__law_is tk (hr.mono (by omega)) (by rfl) (pd_acons (pd_lst (pd_acons (pd_calld rfl rfl h_weight tk (hr.mono (by omega)) (by rfl) (pd_acons (pd_var (pv 10)) (pd_anil))) (pd_acons (pd_calld rfl rfl h_partings tk (hr.mono (by omega)) (by rfl) (pd_acons (pd_var (pv 10)) (pd_anil))) (pd_anil)))) (pd_acons (pd_lst (pd_acons (pd_calld rfl rfl h__law_weight tk (hr.mono (by omega)) (by rfl) (pd_acons (pd_var (pv 10)) (pd_anil))) (pd_acons (pd_callTy call_tupF (fun_tup rfl) (by rfl) b_tuple (by rfl) (pd_acons (pd_calld rfl rfl h__law_partings tk (hr.mono (by omega)) (by rfl) (pd_acons (pd_var (pv 10)) (pd_anil))) (pd_anil))) (pd_anil)))) (pd_anil)))))) (pd_or1 (pd_testC op_isnot1 opd_is (pd_calld rfl rfl h_is_type tk (hr.mono (by omega)) (by rfl) (pd_acons (pd_var (pv 10)) (pd_anil))) (pd_const pe_bl fun _ => rfl) (by rfl))))) (pds_one (pds_ret (pd_const pe_bl fun _ => rfl))) (pds_nil)) (pds_one (pds_set nd (i := 9) rfl (.inl rfl) (pd_calld rfl rfl h__law_plus tk (hr.mono (by omega)) (by rfl) (pd_acons (pd_var (pv 9)) (pd_acons (pd_tup (pd_acons (pd_const pe_int fun _ => rfl) (pd_acons (pd_calld rfl rfl h__law_weight tk (hr.mono (by omega)) (by rfl) (pd_acons (pd_var (pv 10)) (pd_anil))) (pd_anil)))) (pd_anil)))))))) (pds_one (pds_if (pd_testC (op_neD hr.u64) opd_ne (pd_var (pv 9)) (pd_tup (pd_acons (pd_const pe_int fun _ => rfl) (pd_acons (pd_const pe_int fun _ => rfl) (pd_anil)))) (by rfl)) (pds_one (pds_ret (pd_const pe_bl fun _ => rfl))) (pds_nil)))))) (pds_cons (pds_for (passes_of rfl) rfl (pdi_seq rfl (pd_lst (pd_acons (pd_const pe_int fun _ => rfl) (pd_acons (pd_const pe_int fun _ => rfl) (pd_acons (pd_const pe_non fun _ => rfl) (pd_acons (pd_const pe_bl fun _ => rfl) (pd_acons (pd_const pe_str fun _ => rfl) (pd_acons (pd_tup (pd_acons (pd_const pe_int fun _ => rfl) (pd_anil))) (pd_anil))))))))) (pdg_name (i := 4) nd rfl (.inr rfl)) (pds_cons (pds_set nd (i := 11) rfl (.inl rfl) (pd_lst (pd_acons (caught_by Fc mc ct (by rfl) (fun _ _ _ _ _ _ us hl => match us, hl with | [_], _ => rfl) ⟨rfl, rfl, rfl, by decide +kernel, rfl, by decide +kernel, by decide +kernel⟩ ⟨rfl, rfl, rfl, rfl⟩ rfl (by rfl) TB (hcd.symm.trans hcc) hmT hu hr (show LamX.lamSB (defScope (top 41)) _ = true by decide +kernel) rfl (fun _ _ _ _ _ => rfl) (fun A outer s H E f c' hr tk => pd_calld rfl rfl h_types tk (hr.mono (by omega)) (by rfl) (pd_acons (pd_var (pv 4)) (pd_anil)))) (pd_anil)))) (pds_cons (pds_drop (pd_mut PySem.F.slot_list_append PySem.F.type_list_append mt_append mut_app (pv 11) (pd_acons (caught_by Fc mc ct (by rfl) (fun _ _ _ _ _ _ us hl => match us, hl with | [_], _ => rfl) ⟨rfl, rfl, rfl, by decide +kernel, rfl, by decide +kernel, by decide +kernel⟩ ⟨rfl, rfl, rfl, rfl⟩ rfl (by rfl) TB (hcd.symm.trans hcc) hmT hu hr (show LamX.lamSB (defScope (top 41)) _ = true by decide +kernel) rfl (fun _ _ _ _ _ => rfl) (fun A outer s H E f c' hr tk => pd_calld rfl rfl h_kind_types tk (hr.mono (by omega)) (by rfl) (pd_acons (pd_var (pv 4)) (pd_acons (pd_const pe_non fun _ => rfl) (pd_anil))))) (pd_anil)))) (pds_one (pds_if (pd_testC (op_neD hr.u64) opd_ne (pd_lc rfl nd (pdi_seq rfl (pd_var (pv 11))) (own := [("error", 12)]) (blkOk_by (N := ["script", "state", "longest", "size", "wrong", "told", "turn", "thing", "due", "total", "rings", "errors", "error"]) (sc := defScope (top 41)) (by decide +kernel)) (by decide) (fun _ _ _ _ _ => pdg_name (i := 12) nd rfl (.inl rfl)) (fun _ _ _ _ _ => pdt_one (pd_not (pd_test (pd_callB call_isiX (fun_isiX rfl rfl isf) (by rfl) b_isinstance (by rfl) (pd_acons (pd_var (pv 12)) (pd_acons (pd_cls rfl k_NoSize.choose_spec (by rfl)) (pd_anil))))))) (fun _ _ _ _ _ => pd_const pe_int fun _ => rfl)) (pd_lst (pd_anil)) (by rfl)) (pds_one (pds_ret (pd_const pe_bl fun _ => rfl))) (pds_nil)))))) (pds_cons (pds_set nd (i := 5) rfl (.inl rfl) (pd_lst (pd_acons (pd_const pe_non fun _ => rfl) (pd_acons (pd_const pe_int fun _ => rfl) (pd_acons (pd_lst (pd_acons (pd_const pe_int fun _ => rfl) (pd_anil))) (pd_acons (pd_tup (pd_acons (pd_const pe_int fun _ => rfl) (pd_acons (pd_const pe_int fun _ => rfl) (pd_anil)))) (pd_acons (pd_tup (pd_acons (pd_const pe_int fun _ => rfl) (pd_anil))) (pd_acons (pd_tup (pd_acons (pd_const pe_int fun _ => rfl) (pd_acons (pd_const pe_int fun _ => rfl) (pd_anil)))) (pd_acons (pd_tup (pd_acons (pd_const pe_int fun _ => rfl) (pd_anil))) (pd_acons (pd_tup (pd_acons (pd_un un_neg und_neg (pd_const pe_int fun _ => rfl)) (pd_anil))) (pd_acons (pd_tup (pd_acons (pd_const pe_bl fun _ => rfl) (pd_anil))) (pd_acons (pd_tup (pd_acons (pd_const pe_int fun _ => rfl) (pd_acons (pd_const pe_int fun _ => rfl) (pd_acons (pd_const pe_int fun _ => rfl) (pd_anil))))) (pd_acons (pd_bin op_mulD opd_mul (pd_tup (pd_acons (pd_const pe_int fun _ => rfl) (pd_anil))) (pd_const pe_int fun _ => rfl)) (pd_acons (pd_tup (pd_acons (pd_const pe_str fun _ => rfl) (pd_anil))) (pd_acons (pd_tup (pd_acons (pd_tup (pd_acons (pd_const pe_int fun _ => rfl) (pd_anil))) (pd_anil))) (pd_acons (pd_tup (pd_acons (pd_const pe_int fun _ => rfl) (pd_acons (pd_const pe_int fun _ => rfl) (pd_acons (pd_const pe_int fun _ => rfl) (pd_anil))))) (pd_acons (pd_tup (pd_acons (pd_const pe_int fun _ => rfl) (pd_acons (pd_const pe_int fun _ => rfl) (pd_anil)))) (pd_anil)))))))))))))))))) (pds_cons (pds_for (passes_of rfl) rfl (pdi_range1 (by rfl) b_range (pd_acons (pd_bin op_addD opd_add (pd_const pe_int fun _ => rfl) (pd_callB (call_min2 rfl) fun_min2 (by rfl) b_min (by rfl) (pd_acons (pd_callB call_lenA (fun_len rfl) (by rfl) b_len (by rfl) (pd_acons (pd_var (pv 0)) (pd_anil))) (pd_acons (pd_const pe_int fun _ => rfl) (pd_anil))))) (pd_anil))) (pdg_name (i := 6) nd rfl (.inl rfl)) (pds_one (pds_drop (pd_mut PySem.F.slot_list_append PySem.F.type_list_append mt_append mut_app (pv 5) (pd_acons (pd_calld rfl rfl h__law_near tk (hr.mono (by omega)) (by rfl) (pd_acons (pd_var (pv 1)) (pd_acons (pd_calld rfl rfl h__law_pick tk (hr.mono (by omega)) (by rfl) (pd_acons (pd_var (pv 1)) (pd_acons (pd_calld rfl rfl h__law_types tk (hr.mono (by omega)) (by rfl) (pd_acons (pd_const pe_int fun _ => rfl) (pd_anil))) (pd_anil)))) (pd_anil)))) (pd_anil)))))) (pds_cons (pds_for (passes_of rfl) rfl (pdi_seq rfl (pd_var (pv 5))) (pdg_name (i := 7) nd rfl (.inr rfl)) (pds_cons (pds_set nd (i := 8) rfl (.inr rfl) (pd_calld rfl rfl h__law_is_own tk (hr.mono (by omega)) (by rfl) (pd_acons (pd_var (pv 7)) (pd_anil)))) (pds_cons (pds_set nd (i := 11) rfl (.inl rfl) (pd_lst (pd_acons (caught_by Fc mc ct (by rfl) (fun _ _ _ _ _ _ us hl => match us, hl with | [_], _ => rfl) ⟨rfl, rfl, rfl, by decide +kernel, rfl, by decide +kernel, by decide +kernel⟩ ⟨rfl, rfl, rfl, rfl⟩ rfl (by rfl) TB (hcd.symm.trans hcc) hmT hu hr (show LamX.lamSB (defScope (top 41)) _ = true by decide +kernel) rfl (fun _ _ _ _ _ => rfl) (fun A outer s H E f c' hr tk => pd_calld rfl rfl h_weight tk (hr.mono (by omega)) (by rfl) (pd_acons (pd_var (pv 7)) (pd_anil)))) (pd_anil)))) (pds_cons (pds_drop (pd_mut PySem.F.slot_list_append PySem.F.type_list_append mt_append mut_app (pv 11) (pd_acons (caught_by Fc mc ct (by rfl) (fun _ _ _ _ _ _ us hl => match us, hl with | [_], _ => rfl) ⟨rfl, rfl, rfl, by decide +kernel, rfl, by decide +kernel, by decide +kernel⟩ ⟨rfl, rfl, rfl, rfl⟩ rfl (by rfl) TB (hcd.symm.trans hcc) hmT hu hr (show LamX.lamSB (defScope (top 41)) _ = true by decide +kernel) rfl (fun _ _ _ _ _ => rfl) (fun A outer s H E f c' hr tk => pd_calld rfl rfl h_partings tk (hr.mono (by omega)) (by rfl) (pd_acons (pd_var (pv 7)) (pd_anil)))) (pd_anil)))) (pds_one (pds_if (PW.pt (pd_or (pd_not (pd_test (pd_calld rfl rfl h__law_is tk (hr.mono (by omega)) (by rfl) (pd_acons (pd_calld rfl rfl h_is_type tk (hr.mono (by omega)) (by rfl) (pd_acons (pd_var (pv 7)) (pd_anil))) (pd_acons (pd_var (pv 8)) (pd_anil)))))) (pd_or1 (pd_testC (op_neD hr.u64) opd_ne (pd_lc rfl nd (pdi_seq rfl (pd_var (pv 11))) (own := [("error", 12)]) (blkOk_by (N := ["script", "state", "longest", "size", "wrong", "told", "turn", "thing", "due", "total", "rings", "errors", "error"]) (sc := defScope (top 41)) (by decide +kernel)) (by decide) (fun _ _ _ _ _ => pdg_name (i := 12) nd rfl (.inl rfl)) (fun _ _ _ _ _ => pdt_one (PW.pt (pd_or (pd_testC (op_neD hr.u64) opd_ne (pd_cmp op_is1 opd_is (pd_var (pv 12)) (pd_const pe_non fun _ => rfl) (by rfl)) (pd_var (pv 8)) (by rfl)) (pd_or1 (PW.pt (pd_and (pd_testC op_isnot1 opd_is (pd_var (pv 12)) (pd_const pe_non fun _ => rfl) (by rfl)) (pd_and1 (pd_not (pd_test (pd_callB call_isiX (fun_isiX rfl rfl isf) (by rfl) b_isinstance (by rfl) (pd_acons (pd_var (pv 12)) (pd_acons (pd_cls rfl k_NoType.choose_spec (by rfl)) (pd_anil))))))))))))) (fun _ _ _ _ _ => pd_const pe_int fun _ => rfl)) (pd_lst (pd_anil)) (by rfl))))) (pds_one (pds_ret (pd_const pe_bl fun _ => rfl))) (pds_nil))))))) (pds_one (pds_ret (pd_const pe_bl fun _ => rfl))))))))) plain
theorem ok__law_begun (F : L2.FunD K "_law_begun" "_law_begun" (defArgs (top 26)) (defBody (top 26)) (defScope (top 26)) [] [] f fd) (b_abs : mg "abs" = none) : FnOk P w K mg base (L2.CX P w) 2 f fd ["script"] (spBegun K T) :=
  begun_ok F ⟨rfl, rfl, rfl, by decide +kernel, rfl, by decide +kernel, by decide +kernel⟩ rfl (fun G cd hK hmg hT hcd A outer s H E hr tk => by
    subst hK hmg hT
    have nd : (["script", "great", "cell"] : List Str).Nodup := by decide
    exact pds_setLc rfl nd (i := 1) rfl rfl rfl (pdi_seq rfl (pd_var (pv 0))) (own := [("cell", 2)]) (blkOk_by (N := ["script", "great", "cell"]) (sc := defScope (top 26)) (by decide +kernel)) (by decide) (fun _ _ _ _ _ => pdg_name (i := 2) nd rfl (.inl rfl)) (fun _ _ _ _ _ => pdt_one (pd_testC op_geD opd_cmpI (pd_callB call_abs fun_abs (by rfl) b_abs (by rfl) (pd_acons (pd_var (pv 2)) pd_anil)) (pd_bin op_powD opd_pow (pd_const pe_int fun _ => rfl) (pd_const pe_int fun _ => rfl)) (by rfl))) (fun _ _ _ _ _ => pd_bin op_subD opd_sub (pd_callB call_abs fun_abs (by rfl) b_abs (by rfl) (pd_acons (pd_var (pv 2)) pd_anil)) (pd_bin op_powD opd_pow (pd_const pe_int fun _ => rfl) (pd_const pe_int fun _ => rfl)))) (fun G cd hK hmg hT hcd A outer s H E hr tk => by
    subst hK hmg hT
    have nd : (["script", "great", "cell"] : List Str).Nodup := by decide
    exact pd_lc rfl nd (pdi_seq rfl (pd_var (pv 0))) (own := [("cell", 2)]) (blkOk_by (N := ["script", "great", "cell"]) (sc := defScope (top 26)) (by decide +kernel)) (by decide) (fun _ _ _ _ _ => pdg_name (i := 2) nd rfl (.inl rfl)) (fun _ _ _ _ _ => pdt_nil) (fun _ _ _ _ _ => pd_callB call_abs fun_abs (by rfl) b_abs (by rfl) (pd_acons (pd_var (pv 2)) pd_anil)))
end
theorem facts {l : PySem.W.OpenLaw} {w : World} {K : PySem.W.Frag} {h : Heap} {mg : Str → Option Value} {f : Addr} (X : K.In h) (Gn : h.Ns mainGlobals mg) (hfa : mg ("law" : Str) = some (.ref f)) (c : He.SaysX fa fn [] tf ex w h K) (plain : ∀ ns : List Int, ns.length ≤ 63 → ∃ e S, law_m (lawE 13 ns) (S0 ns) = .rt (.val (.bl true)) e S) : LamX.LawAtS l w K (L2.CX l.prog w) 17 63 "script" mg f h := by
  have hx := c.more
  unfold ex at hx
  simp only [Bool.and_eq_true] at hx
  obtain ⟨⟨⟨⟨⟨⟨x0, x1⟩, x2⟩, x3⟩, x4⟩, x5⟩, x6⟩ := hx
  have isf := isFB_ok X Gn x0
  have ct := ctB_ok X Gn x1
  have k_KINDS := cnB_ok X Gn x2
  have k_MOST_SIZE := cnB_ok X Gn x3
  have x_NoKind := xcB_ok X Gn x4
  have x_NoSize := xcB_ok X Gn x5
  have x_NoType := xcB_ok X Gn x6
  have k_NoKind : ∃ C, mg "NoKind" = some (.ref C) := ⟨_, He.glo_ok X Gn (c.t.d.fact 35 (f := .glo "NoKind") rfl)⟩
  have k_NoSize : ∃ C, mg "NoSize" = some (.ref C) := ⟨_, He.glo_ok X Gn (c.t.d.fact 33 (f := .glo "NoSize") rfl)⟩
  have k_NoType : ∃ C, mg "NoType" = some (.ref C) := ⟨_, He.glo_ok X Gn (c.t.d.fact 34 (f := .glo "NoType") rfl)⟩
  have b_abs := He.free_ok X Gn (c.t.d.fact 38 (f := .free "abs") rfl)
  have b_all := He.free_ok X Gn (c.t.d.fact 39 (f := .free "all") rfl)
  have b_bool := He.free_ok X Gn (c.t.d.fact 40 (f := .free "bool") rfl)
  have b_dict := He.free_ok X Gn (c.t.d.fact 41 (f := .free "dict") rfl)
  have b_int := He.free_ok X Gn (c.t.d.fact 42 (f := .free "int") rfl)
  have b_isinstance := He.free_ok X Gn (c.t.d.fact 43 (f := .free "isinstance") rfl)
  have b_len := He.free_ok X Gn (c.t.d.fact 44 (f := .free "len") rfl)
  have b_list := He.free_ok X Gn (c.t.d.fact 45 (f := .free "list") rfl)
  have b_min := He.free_ok X Gn (c.t.d.fact 46 (f := .free "min") rfl)
  have b_range := He.free_ok X Gn (c.t.d.fact 47 (f := .free "range") rfl)
  have b_sorted := He.free_ok X Gn (c.t.d.fact 48 (f := .free "sorted") rfl)
  have b_str := He.free_ok X Gn (c.t.d.fact 49 (f := .free "str") rfl)
  have b_sum := He.free_ok X Gn (c.t.d.fact 50 (f := .free "sum") rfl)
  have b_tuple := He.free_ok X Gn (c.t.d.fact 51 (f := .free "tuple") rfl)
  have b_zip := He.free_ok X Gn (c.t.d.fact 52 (f := .free "zip") rfl)
  obtain ⟨fd_is_whole, F_is_whole⟩ := c.t.d.def_ 0 (d := d_is_whole) rfl
  have m_is_whole := He.glo_ok X Gn (c.t.d.fact 0 (f := .glo "is_whole") rfl)
  obtain ⟨fd_is_below, F_is_below⟩ := c.t.d.def_ 1 (d := d_is_below) rfl
  have m_is_below := He.glo_ok X Gn (c.t.d.fact 1 (f := .glo "is_below") rfl)
  obtain ⟨fd_is_longest, F_is_longest⟩ := c.t.d.def_ 2 (d := d_is_longest) rfl
  have m_is_longest := He.glo_ok X Gn (c.t.d.fact 2 (f := .glo "is_longest") rfl)
  obtain ⟨fd_need_longest, F_need_longest⟩ := c.t.d.def_ 3 (d := d_need_longest) rfl
  have m_need_longest := He.glo_ok X Gn (c.t.d.fact 3 (f := .glo "need_longest") rfl)
  obtain ⟨fd_is_type, F_is_type⟩ := c.t.d.def_ 4 (d := d_is_type) rfl
  have m_is_type := He.glo_ok X Gn (c.t.d.fact 4 (f := .glo "is_type") rfl)
  obtain ⟨fd_need_type, F_need_type⟩ := c.t.d.def_ 5 (d := d_need_type) rfl
  have m_need_type := He.glo_ok X Gn (c.t.d.fact 5 (f := .glo "need_type") rfl)
  obtain ⟨fd_types_within, F_types_within⟩ := c.t.d.def_ 6 (d := d_types_within) rfl
  have m_types_within := He.glo_ok X Gn (c.t.d.fact 6 (f := .glo "types_within") rfl)
  obtain ⟨fd_types_of, F_types_of⟩ := c.t.d.def_ 7 (d := d_types_of) rfl
  have m_types_of := He.glo_ok X Gn (c.t.d.fact 7 (f := .glo "types_of") rfl)
  obtain ⟨fd_types, F_types⟩ := c.t.d.def_ 8 (d := d_types) rfl
  have m_types := He.glo_ok X Gn (c.t.d.fact 8 (f := .glo "types") rfl)
  obtain ⟨fd_weight_of, F_weight_of⟩ := c.t.d.def_ 9 (d := d_weight_of) rfl
  have m_weight_of := He.glo_ok X Gn (c.t.d.fact 9 (f := .glo "weight_of") rfl)
  obtain ⟨fd_weight, F_weight⟩ := c.t.d.def_ 10 (d := d_weight) rfl
  have m_weight := He.glo_ok X Gn (c.t.d.fact 10 (f := .glo "weight") rfl)
  obtain ⟨fd_partings_of, F_partings_of⟩ := c.t.d.def_ 11 (d := d_partings_of) rfl
  have m_partings_of := He.glo_ok X Gn (c.t.d.fact 11 (f := .glo "partings_of") rfl)
  obtain ⟨fd_partings, F_partings⟩ := c.t.d.def_ 12 (d := d_partings) rfl
  have m_partings := He.glo_ok X Gn (c.t.d.fact 12 (f := .glo "partings") rfl)
  obtain ⟨fd_is_kind, F_is_kind⟩ := c.t.d.def_ 13 (d := d_is_kind) rfl
  have m_is_kind := He.glo_ok X Gn (c.t.d.fact 13 (f := .glo "is_kind") rfl)
  obtain ⟨fd_types_by, F_types_by⟩ := c.t.d.def_ 14 (d := d_types_by) rfl
  have m_types_by := He.glo_ok X Gn (c.t.d.fact 14 (f := .glo "types_by") rfl)
  obtain ⟨fd_kind_types, F_kind_types⟩ := c.t.d.def_ 15 (d := d_kind_types) rfl
  have m_kind_types := He.glo_ok X Gn (c.t.d.fact 15 (f := .glo "kind_types") rfl)
  obtain ⟨fd__law_begun, F__law_begun⟩ := c.t.d.def_ 16 (d := d__law_begun) rfl
  have m__law_begun := He.glo_ok X Gn (c.t.d.fact 16 (f := .glo "_law_begun") rfl)
  obtain ⟨fd__law_mixed, F__law_mixed⟩ := c.t.d.def_ 17 (d := d__law_mixed) rfl
  have m__law_mixed := He.glo_ok X Gn (c.t.d.fact 17 (f := .glo "_law_mixed") rfl)
  obtain ⟨fd__law_draw, F__law_draw⟩ := c.t.d.def_ 18 (d := d__law_draw) rfl
  have m__law_draw := He.glo_ok X Gn (c.t.d.fact 18 (f := .glo "_law_draw") rfl)
  obtain ⟨fd__law_pick, F__law_pick⟩ := c.t.d.def_ 19 (d := d__law_pick) rfl
  have m__law_pick := He.glo_ok X Gn (c.t.d.fact 19 (f := .glo "_law_pick") rfl)
  obtain ⟨fd__law_is, F__law_is⟩ := c.t.d.def_ 20 (d := d__law_is) rfl
  have m__law_is := He.glo_ok X Gn (c.t.d.fact 20 (f := .glo "_law_is") rfl)
  obtain ⟨fd__law_near, F__law_near⟩ := c.t.d.def_ 21 (d := d__law_near) rfl
  have m__law_near := He.glo_ok X Gn (c.t.d.fact 21 (f := .glo "_law_near") rfl)
  obtain ⟨fd__law_caught, F__law_caught⟩ := c.t.d.def_ 22 (d := d__law_caught) rfl
  have m__law_caught := He.glo_ok X Gn (c.t.d.fact 22 (f := .glo "_law_caught") rfl)
  obtain ⟨fd__law_common, F__law_common⟩ := c.t.d.def_ 23 (d := d__law_common) rfl
  have m__law_common := He.glo_ok X Gn (c.t.d.fact 23 (f := .glo "_law_common") rfl)
  obtain ⟨fd__law_no, F__law_no⟩ := c.t.d.def_ 24 (d := d__law_no) rfl
  have m__law_no := He.glo_ok X Gn (c.t.d.fact 24 (f := .glo "_law_no") rfl)
  obtain ⟨fd__law_plus, F__law_plus⟩ := c.t.d.def_ 25 (d := d__law_plus) rfl
  have m__law_plus := He.glo_ok X Gn (c.t.d.fact 25 (f := .glo "_law_plus") rfl)
  obtain ⟨fd__law_types_of, F__law_types_of⟩ := c.t.d.def_ 26 (d := d__law_types_of) rfl
  have m__law_types_of := He.glo_ok X Gn (c.t.d.fact 26 (f := .glo "_law_types_of") rfl)
  obtain ⟨fd__law_types, F__law_types⟩ := c.t.d.def_ 27 (d := d__law_types) rfl
  have m__law_types := He.glo_ok X Gn (c.t.d.fact 27 (f := .glo "_law_types") rfl)
  obtain ⟨fd__law_weight, F__law_weight⟩ := c.t.d.def_ 28 (d := d__law_weight) rfl
  have m__law_weight := He.glo_ok X Gn (c.t.d.fact 28 (f := .glo "_law_weight") rfl)
  obtain ⟨fd__law_partings, F__law_partings⟩ := c.t.d.def_ 29 (d := d__law_partings) rfl
  have m__law_partings := He.glo_ok X Gn (c.t.d.fact 29 (f := .glo "_law_partings") rfl)
  obtain ⟨fd__law_is_own, F__law_is_own⟩ := c.t.d.def_ 30 (d := d__law_is_own) rfl
  have m__law_is_own := He.glo_ok X Gn (c.t.d.fact 30 (f := .glo "_law_is_own") rfl)
  obtain ⟨fd_law, F_law⟩ := c.t.d.def_ 31 (d := d_law) rfl
  have m_law := He.glo_ok X Gn (c.t.d.fact 31 (f := .glo "law") rfl)
  have e := hfa.symm.trans m_law
  cases e
  let T : List (Addr × Str) := [((He.cT K ("law", none)).2, (envOfC "law" (defScope (top 41)) 0 0 .none).qual ++ "<lambda>")]
  refine ⟨fd_law, tf.map (He.cT K), spLaw K T, fun p hp => ?_, fun p hp => ?_, fun p hp => ?_, fun s v => L2.FunD.bindsA (ps := ["script"]) F_law (fun _ _ _ _ _ _ us hl => match us, hl with | [_], _ => rfl) s [v] rfl, fun H a ns hl _ hH hS => ⟨a, ns, rfl, hS, hl, tabs_empty (T := T) (fun p hp => ?_), fun _ => rfl⟩, fun base hB hN hT => ?_⟩
  · obtain ⟨d, hd, rfl⟩ := List.mem_map.mp hp; exact c.empty d hd
  · obtain ⟨d, hd, rfl⟩ := List.mem_map.mp hp; exact c.out d hd
  · obtain ⟨d, hd, rfl⟩ := List.mem_map.mp hp; exact PySem.W.codeHd_of_K X (c.hd d hd)
  · rw [List.mem_singleton.mp hp]; exact hH (He.cT K ("law", none)) (List.mem_map.mpr ⟨_, by decide, rfl⟩)
  have o_is_whole := ok_is_whole (P := l.prog) (w := w) (mg := mg) (base := base) (T := T) F_is_whole b_bool b_int b_isinstance isf
  have h_is_whole : Dn l.prog w K mg base T 1 "is_whole" ["thing"] is_whole_s := dn_of F_is_whole m_is_whole o_is_whole (fun _ _ _ _ _ _ us hl => match us, hl with | [_], _ => rfl) fnRun_len
  have o_is_below := ok_is_below (P := l.prog) (w := w) (mg := mg) (base := base) (T := T) F_is_below h_is_whole
  have h_is_below : Dn l.prog w K mg base T 2 "is_below" ["thing", "many"] is_below_s := dn_of F_is_below m_is_below o_is_below (fun _ _ _ _ _ _ us hl => match us, hl with | [_, _], _ => rfl) fnRun_len
  have o_is_longest := ok_is_longest (P := l.prog) (w := w) (mg := mg) (base := base) (T := T) F_is_longest k_MOST_SIZE h_is_below
  have h_is_longest : Dn l.prog w K mg base T 3 "is_longest" ["thing"] is_longest_s := dn_of F_is_longest m_is_longest o_is_longest (fun _ _ _ _ _ _ us hl => match us, hl with | [_], _ => rfl) fnRun_len
  have o_need_longest := ok_need_longest (P := l.prog) (w := w) (mg := mg) (base := base) (T := T) F_need_longest x_NoSize h_is_longest
  have h_need_longest : Dn l.prog w K mg base T 4 "need_longest" ["longest"] need_longest_s := dn_of F_need_longest m_need_longest o_need_longest (fun _ _ _ _ _ _ us hl => match us, hl with | [_], _ => rfl) fnRun_len
  have o_is_type := ok_is_type (P := l.prog) (w := w) (mg := mg) (base := base) (T := T) F_is_type k_MOST_SIZE b_all b_isinstance b_sum b_tuple b_zip isf h_is_whole
  have h_is_type : Dn l.prog w K mg base T 2 "is_type" ["thing"] is_type_s := dn_of F_is_type m_is_type o_is_type (fun _ _ _ _ _ _ us hl => match us, hl with | [_], _ => rfl) fnRun_len
  have o_need_type := ok_need_type (P := l.prog) (w := w) (mg := mg) (base := base) (T := T) F_need_type x_NoType h_is_type
  have h_need_type : Dn l.prog w K mg base T 3 "need_type" ["thing"] need_type_s := dn_of F_need_type m_need_type o_need_type (fun _ _ _ _ _ _ us hl => match us, hl with | [_], _ => rfl) fnRun_len
  have h_types_within : Dn l.prog w K mg base T 11 "types_within" ["size", "most"] (recF types_within_b 10) := dn_of F_types_within m_types_within (ok_types_within F_types_within m_types_within b_min b_range 10) (fun _ _ _ _ _ _ us hl => match us, hl with | [_, _], _ => rfl) (recF_len (fun _ => fnRun_len) _)
  have o_types_of := ok_types_of (P := l.prog) (w := w) (mg := mg) (base := base) (T := T) F_types_of b_range b_sorted h_types_within
  have h_types_of : Dn l.prog w K mg base T 12 "types_of" ["longest"] types_of_s := dn_of F_types_of m_types_of o_types_of (fun _ _ _ _ _ _ us hl => match us, hl with | [_], _ => rfl) fnRun_len
  have o_types := ok_types (P := l.prog) (w := w) (mg := mg) (base := base) (T := T) F_types b_tuple h_need_longest h_types_of
  have h_types : Dn l.prog w K mg base T 13 "types" ["longest"] types_s := dn_of F_types m_types o_types (fun _ _ _ _ _ _ us hl => match us, hl with | [_], _ => rfl) fnRun_len
  have o_weight_of := ok_weight_of (P := l.prog) (w := w) (mg := mg) (base := base) (T := T) F_weight_of b_dict b_list b_range
  have h_weight_of : Dn l.prog w K mg base T 1 "weight_of" ["one"] weight_of_s := dn_of F_weight_of m_weight_of o_weight_of (fun _ _ _ _ _ _ us hl => match us, hl with | [_], _ => rfl) fnRun_len
  have o_weight := ok_weight (P := l.prog) (w := w) (mg := mg) (base := base) (T := T) F_weight h_need_type h_weight_of
  have h_weight : Dn l.prog w K mg base T 4 "weight" ["rings"] weight_s := dn_of F_weight m_weight o_weight (fun _ _ _ _ _ _ us hl => match us, hl with | [_], _ => rfl) fnRun_len
  have o_partings_of := ok_partings_of (P := l.prog) (w := w) (mg := mg) (base := base) (T := T) F_partings_of 
  have h_partings_of : Dn l.prog w K mg base T 1 "partings_of" ["one"] partings_of_s := dn_of F_partings_of m_partings_of o_partings_of (fun _ _ _ _ _ _ us hl => match us, hl with | [_], _ => rfl) fnRun_len
  have o_partings := ok_partings (P := l.prog) (w := w) (mg := mg) (base := base) (T := T) F_partings b_tuple h_need_type h_partings_of
  have h_partings : Dn l.prog w K mg base T 4 "partings" ["rings"] partings_s := dn_of F_partings m_partings o_partings (fun _ _ _ _ _ _ us hl => match us, hl with | [_], _ => rfl) fnRun_len
  have o_is_kind := ok_is_kind (P := l.prog) (w := w) (mg := mg) (base := base) (T := T) F_is_kind k_KINDS b_isinstance b_str isf
  have h_is_kind : Dn l.prog w K mg base T 1 "is_kind" ["thing"] is_kind_s := dn_of F_is_kind m_is_kind o_is_kind (fun _ _ _ _ _ _ us hl => match us, hl with | [_], _ => rfl) fnRun_len
  have o_types_by := ok_types_by (P := l.prog) (w := w) (mg := mg) (base := base) (T := T) F_types_by h_types_of
  have h_types_by : Dn l.prog w K mg base T 13 "types_by" ["longest", "kind"] types_by_s := dn_of F_types_by m_types_by o_types_by (fun _ _ _ _ _ _ us hl => match us, hl with | [_, _], _ => rfl) fnRun_len
  have o_kind_types := ok_kind_types (P := l.prog) (w := w) (mg := mg) (base := base) (T := T) F_kind_types x_NoKind b_tuple h_need_longest h_is_kind h_types_by
  have h_kind_types : Dn l.prog w K mg base T 14 "kind_types" ["longest", "kind"] kind_types_s := dn_of F_kind_types m_kind_types o_kind_types (fun _ _ _ _ _ _ us hl => match us, hl with | [_, _], _ => rfl) fnRun_len
  have hk_kind_types_kind_longest : DnK l.prog w K mg base T 14 "kind_types" ["longest", "kind"] ["kind", "longest"] (fun {_} us ws => match us, ws with | [], [x0, x1] => [x1, x0] | _, _ => []) kind_types_s := dnK_of F_kind_types m_kind_types o_kind_types (fun _ _ _ _ _ _ us ws hl => match us, ws, hl with | [], [x0, x1], _ => rfl) (by
    intro vs us zs ws r1 r2
    match vs, us, r1 with
    | _, _, .cons a r => exact .nil
    | _, _, .nil =>
      match zs, ws, r2 with
      | _, _, .nil => exact .nil
      | _, _, .cons a (.nil) => exact .nil
      | _, _, .cons a (.cons b (.nil)) => exact .cons b (.cons a (.nil))
      | _, _, .cons a (.cons b (.cons y r)) => exact .nil) (by
    intro G F ds es vs ws r1 r2
    match ds, vs, r1 with
    | d :: ds, _, ⟨v, _, rfl, h, h2⟩ => exact rfl
    | [], _, rfl =>
      match es, ws, r2 with
      | [], _, rfl => exact rfl
      | [a0], _, ⟨v0, _, rfl, h0, rfl⟩ => exact rfl
      | [a0, a1], _, ⟨v0, _, rfl, h0, v1, _, rfl, h1, rfl⟩ => exact ⟨v1, _, rfl, h1, v0, _, rfl, h0, rfl⟩
      | a0 :: a1 :: a2 :: r, _, ⟨v0, _, rfl, h0, v1, _, rfl, h1, v2, _, rfl, h2, h⟩ => exact rfl) fnRun_len
  have o__law_mixed := ok__law_mixed (P := l.prog) (w := w) (mg := mg) (base := base) (T := T) F__law_mixed b_int
  have h__law_mixed : Dn l.prog w K mg base T 1 "_law_mixed" ["state"] _law_mixed_s := dn_of F__law_mixed m__law_mixed o__law_mixed (fun _ _ _ _ _ _ us hl => match us, hl with | [_], _ => rfl) fnRun_len
  have o__law_draw := ok__law_draw (P := l.prog) (w := w) (mg := mg) (base := base) (T := T) F__law_draw b_int h__law_mixed
  have h__law_draw : Dn l.prog w K mg base T 2 "_law_draw" ["state", "room"] _law_draw_s := dn_of F__law_draw m__law_draw o__law_draw (fun _ _ _ _ _ _ us hl => match us, hl with | [_, _], _ => rfl) fnRun_len
  have o__law_pick := ok__law_pick (P := l.prog) (w := w) (mg := mg) (base := base) (T := T) F__law_pick b_len h__law_draw
  have h__law_pick : Dn l.prog w K mg base T 3 "_law_pick" ["state", "some"] _law_pick_s := dn_of F__law_pick m__law_pick o__law_pick (fun _ _ _ _ _ _ us hl => match us, hl with | [_, _], _ => rfl) fnRun_len
  have h__law_is : Dn l.prog w K mg base T 11 "_law_is" ["found", "due"] (recF _law_is_b 10) := dn_of F__law_is m__law_is (ok__law_is F__law_is m__law_is b_dict b_int b_isinstance b_len b_list b_str b_tuple b_zip isf 10) (fun _ _ _ _ _ _ us hl => match us, hl with | [_, _], _ => rfl) (recF_len (fun _ => fnRun_len) _)
  have h__law_near : Dn l.prog w K mg base T 14 "_law_near" ["state", "value"] (recF _law_near_b 10) := dn_of F__law_near m__law_near (ok__law_near F__law_near m__law_near b_int b_isinstance b_len b_list b_str b_tuple isf h__law_draw h__law_pick 10) (fun _ _ _ _ _ _ us hl => match us, hl with | [_, _], _ => rfl) (recF_len (fun _ => fnRun_len) _)
  have o__law_common := ok__law_common (P := l.prog) (w := w) (mg := mg) (base := base) (T := T) F__law_common b_int
  have h__law_common : Dn l.prog w K mg base T 1 "_law_common" ["one", "other"] _law_common_s := dn_of F__law_common m__law_common o__law_common (fun _ _ _ _ _ _ us hl => match us, hl with | [_, _], _ => rfl) fnRun_len
  have o__law_no := ok__law_no (P := l.prog) (w := w) (mg := mg) (base := base) (T := T) F__law_no b_abs h__law_common
  have h__law_no : Dn l.prog w K mg base T 2 "_law_no" ["upper", "lower"] _law_no_s := dn_of F__law_no m__law_no o__law_no (fun _ _ _ _ _ _ us hl => match us, hl with | [_, _], _ => rfl) fnRun_len
  have o__law_plus := ok__law_plus (P := l.prog) (w := w) (mg := mg) (base := base) (T := T) F__law_plus h__law_no
  have h__law_plus : Dn l.prog w K mg base T 3 "_law_plus" ["one", "other"] _law_plus_s := dn_of F__law_plus m__law_plus o__law_plus (fun _ _ _ _ _ _ us hl => match us, hl with | [_, _], _ => rfl) fnRun_len
  have o__law_types_of := ok__law_types_of (P := l.prog) (w := w) (mg := mg) (base := base) (T := T) F__law_types_of b_len b_range b_sorted
  have h__law_types_of : Dn l.prog w K mg base T 1 "_law_types_of" ["size"] _law_types_of_s := dn_of F__law_types_of m__law_types_of o__law_types_of (fun _ _ _ _ _ _ us hl => match us, hl with | [_], _ => rfl) fnRun_len
  have o__law_types := ok__law_types (P := l.prog) (w := w) (mg := mg) (base := base) (T := T) F__law_types b_range h__law_types_of
  have h__law_types : Dn l.prog w K mg base T 2 "_law_types" ["longest"] _law_types_s := dn_of F__law_types m__law_types o__law_types (fun _ _ _ _ _ _ us hl => match us, hl with | [_], _ => rfl) fnRun_len
  have o__law_weight := ok__law_weight (P := l.prog) (w := w) (mg := mg) (base := base) (T := T) F__law_weight b_dict b_range
  have h__law_weight : Dn l.prog w K mg base T 1 "_law_weight" ["rings"] _law_weight_s := dn_of F__law_weight m__law_weight o__law_weight (fun _ _ _ _ _ _ us hl => match us, hl with | [_], _ => rfl) fnRun_len
  have o__law_partings := ok__law_partings (P := l.prog) (w := w) (mg := mg) (base := base) (T := T) F__law_partings 
  have h__law_partings : Dn l.prog w K mg base T 1 "_law_partings" ["rings"] _law_partings_s := dn_of F__law_partings m__law_partings o__law_partings (fun _ _ _ _ _ _ us hl => match us, hl with | [_], _ => rfl) fnRun_len
  have o__law_is_own := ok__law_is_own (P := l.prog) (w := w) (mg := mg) (base := base) (T := T) F__law_is_own b_int b_isinstance b_sum b_tuple b_zip isf
  have h__law_is_own : Dn l.prog w K mg base T 1 "_law_is_own" ["thing"] _law_is_own_s := dn_of F__law_is_own m__law_is_own o__law_is_own (fun _ _ _ _ _ _ us hl => match us, hl with | [_], _ => rfl) fnRun_len
  exact ok_law F_law plain (ok__law_begun F__law_begun b_abs) m__law_begun F__law_begun.kp (F__law_begun.bindsN (fun _ _ _ _ _ _ us hl => match us, hl with | [_], _ => rfl)) ct F__law_caught m__law_caught k_NoKind k_NoSize k_NoType b_isinstance b_len b_min b_range b_tuple isf hk_kind_types_kind_longest (code_ref F_law) (hT (He.cT K ("law", none)) (List.mem_map.mpr ⟨_, by decide, rfl⟩)) rfl h__law_types h__law_is h_kind_types h_types h__law_types_of h__law_partings h__law_weight h_partings h_weight h_is_type h__law_plus h__law_near h__law_pick h__law_is_own
end Lw
set_option Elab.async false
set_option linter.all false
set_option maxRecDepth 100000
set_option maxHeartbeats 0
namespace Lw
open PySem PySem.Spec L2 PD
theorem near_eq : _law_near_b = nearB xns := rfl
def tup (t : List Int) : PD.D := .tup (t.map PD.D.int)
def tyz : List (List Int) := [[], [1], [1, 1], [2], [1, 1, 1], [2, 1], [3], [1, 1, 1, 1], [2, 1, 1], [2, 2], [3, 1], [4], [1, 1, 1, 1, 1], [2, 1, 1, 1], [2, 2, 1], [3, 1, 1], [3, 2], [4, 1], [5]]
def nears (t : List Int) : List PD.D := nearO (t.map PD.D.int) ++ (List.range t.length).flatMap fun i => (nearI (t.getD i 0)).map fun y => .tup ((t.map PD.D.int).set i y)
def nearAll : List PD.D := tyz.flatMap nears
def base : List PD.D := [.non, .int 5, .lst [.int 1], tup [1, 2], tup [6], tup [5, 1], tup [0], tup [-1], .tup [.bl true], tup [2, 2, 1], tup [1, 1, 1, 1, 1, 1], .tup [.str "1"], .tup [tup [1]], tup [2, 1, 1], tup [3, 2]]
def pre : SM := sSeq law_p0 (sSeq law_p1 (sSeq law_p2 law_p3))
def pre8 : PD.D := .tup (tyz.map tup)
def pre11 : PD.D := .lst [.exc "NoSize" [], .exc "NoSize" []]
theorem pre_at (ns : List Int) (S : DS) : pre (lawE 13 ns) S = .nx [.frz (.kl ns), .frz .st, .frz (.int 5), .frz (.int 5), .frz (tup [3]), .own (.lst base), .un, .un, .frz pre8, .frz (tup [1, 1]), .frz (tup [5]), .frz pre11, .un] S := by
  kernel_rfl
theorem types_at (S : DS) : _law_types_s [.int 5] S = .ok (.lst (tyz.map tup)) true S := by kernel_rfl
def b5E (d : PD.D) : List Sl := match law_b5 [.un, .un, .un, .un, .un, .un, .un, .frz d, .un, .un, .un, .un, .un] (S0 []) with
  | .nx e _ => e
  | _ => []
def things : List PD.D := base ++ nearAll
theorem b5_at (S : DS) (x0 x1 x2 x3 x4 x5 x6 x8 x9 x10 x11 x12 : Sl) : things.map (fun d => law_b5 [x0, x1, x2, x3, x4, x5, x6, .frz d, x8, x9, x10, x11, x12] S) =
    things.map fun d => .nx [x0, x1, x2, x3, x4, x5, x6, .frz d, (b5E d).getD 8 .un, x9, x10, (b5E d).getD 11 .un, keepS (some x12)] S := by kernel_rfl
end Lw

set_option Elab.async false
set_option linter.all false
set_option maxRecDepth 100000
set_option maxHeartbeats 1000000
namespace Lw
open PySem PySem.Spec L2 PD
/-- a drawn type, bent -/
theorem near_ty {t : List Int} (ht : t ∈ tyz) {n : Nat} {S : DS} (h : Bd (n + 3) S) (k : Nat) : ∃ d S', d ∈ nears t ∧ Bd n S' ∧ recF _law_near_b (k + 2) [.st, tup t] S = .ok d false S' := by
  have e0 : recF _law_near_b (k + 2) = nearB xns (nearB xns (recF _law_near_b k)) := rfl
  rw [e0]
  have hint : ∀ t ∈ tyz, ∀ i ∈ t, i.natAbs.log2 < 1920 := by decide
  have hlen : ∀ t ∈ tyz, t.length ≤ 5 := by decide
  have hok : ∀ t ∈ tyz, ∃ p, okD (tup t) = some p := by
    intro t ht
    have e : tyz.all (fun t => (okD (tup t)).isSome) = true := by decide +kernel
    have := List.all_eq_true.mp e t ht
    exact Option.isSome_iff_exists.mp this
  obtain ⟨p, hp⟩ := hok t ht
  have hl := hlen t ht
  obtain ⟨d, S', hd, hS, e⟩ := near_tup (xns := xns) (r := nearB xns (recF _law_near_b k)) (n := n) (xs := t.map PD.D.int) 1 (fun i x y => y ∈ nearI (t.getD i 0) ∧ i < t.length) h (by simp; omega) hp
    (fun i x S1 hx hS => by
      rw [List.getElem?_map] at hx
      cases q : t[i]? with
      | none => rw [q] at hx; cases hx
      | some j =>
        rw [q] at hx; cases hx
        obtain ⟨hi, hj⟩ := List.getElem?_eq_some_iff.mp q
        have hm : j ∈ t := hj ▸ List.getElem_mem hi
        obtain ⟨d, S', h1, h2, h3⟩ := near_int (xns := xns) (r := recF _law_near_b k) (i := j) hS (hint t ht j hm)
        exact ⟨d, S', ⟨by rw [List.getD_eq_getElem?_getD, q]; exact h1, hi⟩, h2, h3⟩)
  refine ⟨d, S', ?_, hS, e⟩
  unfold nears
  rcases hd with hd | ⟨i, x, y, h1, ⟨h2, h4⟩, h3⟩
  · exact List.mem_append_left _ hd
  · refine List.mem_append_right _ (List.mem_flatMap.mpr ⟨i, List.mem_range.mpr h4, List.mem_map.mpr ⟨y, h2, h3.symm⟩⟩)
/-- a thing more -/
theorem b4_at {n : Nat} {S : DS} (h : Bd (n + 4) S) {xs : List PD.D} (hl : xs.length < 100000) (x0 x2 x3 x4 x6 x7 x8 x9 x10 x11 x12 : Sl) : ∃ d S', d ∈ nearAll ∧ Bd n S' ∧ law_b4 [x0, .frz .st, x2, x3, x4, .own (.lst xs), x6, x7, x8, x9, x10, x11, x12] S = .nx [x0, .frz .st, x2, x3, x4, .own (.lst (xs ++ [d])), x6, x7, x8, x9, x10, x11, x12] S' := by
  obtain ⟨ty, S1, h1, h2, h3⟩ := pick_ok (n := n + 3) (xs := tyz.map tup) h (by decide) (by decide)
  obtain ⟨t, ht, rfl⟩ := List.mem_map.mp h1
  obtain ⟨d, S2, k1, k2, k3⟩ := near_ty ht h2 8
  refine ⟨d, S2, List.mem_flatMap.mpr ⟨t, ht, k1⟩, k2, ?_⟩
  have t1 := types_at S
  simp only [law_b4, eMut, fnRun, toF, retF, sSeq, sIf, sSet, setE, sRet, sDrop, sSkip, M.then, M.thenS, RR.bind, RR.toS, eVar, eC, eBin, eUn, eFun, eTup, eLst, eCall, eIf, eSl, oNone, oSome, asI, eRev, aCons, aNil, bVal, asB, bAnd, bOr, bNot, vAnd, vOr, vNot, dat, dats, take, takes, EV.look, slD, ofO, opAdd, opSub, opMul, opNeg, opIx, opSl, opCmpI, lenF, tupF, lstF, isiX, isiF, tyD, isTy, anyTy, List.length_cons, List.length_nil, List.map_cons, List.map_nil, List.replicate, List.cons_append, List.nil_append, List.getElem?_cons_zero, List.getElem?_cons_succ, List.set, Option.bind, Option.map, if_true, if_false, Bool.false_eq_true, decide_true, decide_false, Nat.reduceAdd, Nat.reduceSub, Nat.reduceLeDiff, Nat.zero_le, Nat.le_refl, reduceIte, reduceCtorEq, Nat.add_zero, Nat.zero_add, Bool.not_true, Bool.not_false, t1, h3, k3, appF, hl]
theorem loop4 {ds : List PD.D} : ∀ {n : Nat} {S : DS} {xs : List PD.D} (x0 x2 x3 x4 x6 x7 x8 x9 x10 x11 x12 : Sl), Bd (n + 4 * ds.length) S → xs.length + ds.length < 100000 → (∀ d ∈ xs, d ∈ things) →
    ∃ ys S' y6, (∀ d ∈ ys, d ∈ things) ∧ forL (.n 6) law_b4 ds [x0, .frz .st, x2, x3, x4, .own (.lst xs), x6, x7, x8, x9, x10, x11, x12] S = .nx [x0, .frz .st, x2, x3, x4, .own (.lst ys), y6, x7, x8, x9, x10, x11, x12] S' := by
  induction ds with
  | nil => intro n S xs x0 x2 x3 x4 x6 x7 x8 x9 x10 x11 x12 h hl hx; exact ⟨xs, S, x6, hx, rfl⟩
  | cons d ds ih =>
    intro n S xs x0 x2 x3 x4 x6 x7 x8 x9 x10 x11 x12 h hl hx
    simp only [List.length_cons] at h hl
    obtain ⟨u, S1, h1, h2, h3⟩ := b4_at (n := n + 4 * ds.length) (S := S) (h.mono (by omega)) (xs := xs) (by omega) x0 x2 x3 x4 (.frz d) x7 x8 x9 x10 x11 x12
    obtain ⟨ys, S2, y6, k1, k2⟩ := ih (n := n) (S := S1) (xs := xs ++ [u]) x0 x2 x3 x4 (.frz d) x7 x8 x9 x10 x11 x12 h2 (by simp; omega) (fun v hv => by
      rcases List.mem_append.mp hv with hv | hv
      · exact hx v hv
      · rw [List.mem_singleton.mp hv]; exact List.mem_append_right _ h1)
    refine ⟨ys, S2, y6, k1, ?_⟩
    unfold forL
    simp only [bindT, List.set]
    rw [h3]
    exact k2
theorem loop5 {ds : List PD.D} : ∀ {S : DS} (x0 x1 x2 x3 x4 x5 x6 x7 x8 x9 x10 x11 x12 : Sl), (∀ d ∈ ds, d ∈ things) → ∃ y7 y8 y11 y12, forL (.n 7) law_b5 ds [x0, x1, x2, x3, x4, x5, x6, x7, x8, x9, x10, x11, x12] S = .nx [x0, x1, x2, x3, x4, x5, x6, y7, y8, x9, x10, y11, y12] S := by
  induction ds with
  | nil => intro S x0 x1 x2 x3 x4 x5 x6 x7 x8 x9 x10 x11 x12 h; exact ⟨x7, x8, x11, x12, rfl⟩
  | cons d ds ih =>
    intro S x0 x1 x2 x3 x4 x5 x6 x7 x8 x9 x10 x11 x12 h
    have e := List.map_inj_left.mp (b5_at S x0 x1 x2 x3 x4 x5 x6 x8 x9 x10 x11 x12) d (h d (List.mem_cons_self))
    obtain ⟨y7, y8, y11, y12, k⟩ := ih (S := S) x0 x1 x2 x3 x4 x5 x6 (.frz d) ((b5E d).getD 8 .un) x9 x10 ((b5E d).getD 11 .un) (keepS (some x12)) (fun v hv => h v (List.mem_cons_of_mem _ hv))
    refine ⟨y7, y8, y11, y12, ?_⟩
    unfold forL
    simp only [bindT, List.set]
    rw [e]
    exact k
theorem plain (ns : List Int) (hn : ns.length ≤ 63) : ∃ e S, law_m (lawE 13 ns) (S0 ns) = .rt (.val (.bl true)) e S := by
  have e0 : law_m (lawE 13 ns) (S0 ns) = sSeq law_p4 (sSeq law_p5 law_p6) [.frz (.kl ns), .frz .st, .frz (.int 5), .frz (.int 5), .frz (tup [3]), .own (.lst base), .un, .un, .frz pre8, .frz (tup [1, 1]), .frz (tup [5]), .frz pre11, .un] (S0 ns) := by
    have p := pre_at ns (S0 ns)
    have q : ∀ (a b c d r : SM) (e : List Sl) (S : DS), sSeq a (sSeq b (sSeq c (sSeq d r))) e S = match sSeq a (sSeq b (sSeq c d)) e S with
        | .nx e S => r e S
        | r => r := by
      intro a b c d r e S
      unfold sSeq
      cases a e S <;> simp only
      rename_i e1 S1
      cases b e1 S1 <;> simp only
      rename_i e2 S2
      cases c e2 S2 <;> simp only
      all_goals first | rfl | (rename_i e3 S3; cases d e3 S3 <;> rfl)
    unfold law_m
    rw [q]
    unfold pre at p
    rw [p]
  have hb : Bd (4 * 40) (S0 ns) := ⟨Int.le_refl _, by show (0 : Int) + _ ≤ _; decide⟩
  have hr : ∃ ds : List PD.D, ds.length ≤ 40 ∧ law_p4 [.frz (.kl ns), .frz .st, .frz (.int 5), .frz (.int 5), .frz (tup [3]), .own (.lst base), .un, .un, .frz pre8, .frz (tup [1, 1]), .frz (tup [5]), .frz pre11, .un] (S0 ns) =
      forL (.n 6) law_b4 ds [.frz (.kl ns), .frz .st, .frz (.int 5), .frz (.int 5), .frz (tup [3]), .own (.lst base), .un, .un, .frz pre8, .frz (tup [1, 1]), .frz (tup [5]), .frz pre11, .un] (S0 ns) := by
    refine ⟨PD.upTo 0 (15 + (if 10 < (ns.length : Int) then 10 else (ns.length : Int))).toNat, ?_, ?_⟩
    · unfold PD.upTo; simp; split <;> omega
    · have r1 : iRange1 (aCons (eBin opAdd (eC (.int 15)) (eFun min2F (aCons (eFun lenF (aCons (eVar 0) (aNil))) (aCons (eC (.int 10)) (aNil))))) (aNil)) [.frz (.kl ns), .frz .st, .frz (.int 5), .frz (.int 5), .frz (tup [3]), .own (.lst base), .un, .un, .frz pre8, .frz (tup [1, 1]), .frz (tup [5]), .frz pre11, .un] (S0 ns) = .ok (PD.upTo 0 (15 + (if 10 < (ns.length : Int) then 10 else (ns.length : Int))).toNat) [.frz (.kl ns), .frz .st, .frz (.int 5), .frz (.int 5), .frz (tup [3]), .own (.lst base), .un, .un, .frz pre8, .frz (tup [1, 1]), .frz (tup [5]), .frz pre11, .un] (S0 ns) := by
        have sm : small62 (15 + (if 10 < (ns.length : Int) then 10 else (ns.length : Int))) = true := by
          rw [small62_iff]; split <;> omega
        simp only [iRange1, fnRun, toF, retF, sSeq, sIf, sSet, setE, sRet, sDrop, sSkip, M.then, M.thenS, RR.bind, RR.toS, eVar, eC, eBin, eUn, eFun, eTup, eLst, eCall, eIf, eSl, oNone, oSome, asI, eRev, aCons, aNil, bVal, asB, bAnd, bOr, bNot, vAnd, vOr, vNot, dat, dats, take, takes, EV.look, slD, ofO, opAdd, opSub, opMul, opNeg, opIx, opSl, opCmpI, lenF, tupF, lstF, isiX, isiF, tyD, isTy, anyTy, List.length_cons, List.length_nil, List.map_cons, List.map_nil, List.replicate, List.cons_append, List.nil_append, List.getElem?_cons_zero, List.getElem?_cons_succ, List.set, Option.bind, Option.map, if_true, if_false, Bool.false_eq_true, decide_true, decide_false, Nat.reduceAdd, Nat.reduceSub, Nat.reduceLeDiff, Nat.zero_le, Nat.le_refl, reduceIte, reduceCtorEq, Nat.add_zero, Nat.zero_add, Bool.not_true, Bool.not_false, min2F, sm]
      unfold law_p4 sFor M.thenS
      rw [r1]; rfl
  obtain ⟨ds, hd, e4⟩ := hr
  obtain ⟨ys, S1, y6, k1, k2⟩ := loop4 (ds := ds) (n := 0) (S := S0 ns) (xs := base) (.frz (.kl ns)) (.frz (.int 5)) (.frz (.int 5)) (.frz (tup [3])) .un .un (.frz pre8) (.frz (tup [1, 1])) (.frz (tup [5])) (.frz pre11) .un (hb.mono (by omega)) (by show 15 + _ < _; omega) (fun d h => List.mem_append_left _ h)
  obtain ⟨y7, y8, y11, y12, k3⟩ := loop5 (ds := ys) (S := S1) (.frz (.kl ns)) (.frz .st) (.frz (.int 5)) (.frz (.int 5)) (.frz (tup [3])) (.frz (.lst ys)) y6 .un (.frz pre8) (.frz (tup [1, 1])) (.frz (tup [5])) (.frz pre11) .un k1
  have e5 : law_p5 [.frz (.kl ns), .frz .st, .frz (.int 5), .frz (.int 5), .frz (tup [3]), .own (.lst ys), y6, .un, .frz pre8, .frz (tup [1, 1]), .frz (tup [5]), .frz pre11, .un] S1 = forL (.n 7) law_b5 ys [.frz (.kl ns), .frz .st, .frz (.int 5), .frz (.int 5), .frz (tup [3]), .frz (.lst ys), y6, .un, .frz pre8, .frz (tup [1, 1]), .frz (tup [5]), .frz pre11, .un] S1 := rfl
  have e45 : sSeq law_p4 (sSeq law_p5 law_p6) [.frz (.kl ns), .frz .st, .frz (.int 5), .frz (.int 5), .frz (tup [3]), .own (.lst base), .un, .un, .frz pre8, .frz (tup [1, 1]), .frz (tup [5]), .frz pre11, .un] (S0 ns) = .rt (.val (.bl true)) [.frz (.kl ns), .frz .st, .frz (.int 5), .frz (.int 5), .frz (tup [3]), .frz (.lst ys), y6, y7, y8, .frz (tup [1, 1]), .frz (tup [5]), y11, y12] S1 := by
    rw [sSeq, e4, k2]
    simp only
    rw [sSeq, e5, k3]
    rfl
  exact ⟨_, _, e0.trans e45⟩
end Lw

open PySem PySem.W PySem.Calls PyProof.Rows
theorem PySem.Challenge.cw_makebook_k01_whole_types_and_partings_holds : PySem.Challenge.rw_makebook_k01_whole_types_and_partings.Holds := by
  w_on; o_law
  refine HandSHeadRun.head_any (r := OpenLaw.row PySem.Challenge.rw_makebook_k01_whole_types_and_partings) (q := view (OpenLaw.row PySem.Challenge.rw_makebook_k01_whole_types_and_partings).prog [41]) (H := Lw.hk) (ob := Lw.ob) (M := 2600) (loose := Lw.names) (d := HandSHeadRun.topDef (OpenLaw.row PySem.Challenge.rw_makebook_k01_whole_types_and_partings).prog 41) (kwd := []) Lw.ob_eq
    (by kernel_rfl) (fun s => by kernel_rfl) Lw.run (by kernel_rfl) (by kernel_rfl) (by kernel_rfl) (by rfl) (by first | assumption | decide +kernel) (by decide +kernel) ⟨rfl, rfl, rfl, rfl, rfl, by decide +kernel⟩ ?hw ?hc
  case hw => w_witness2
  case hc =>
    refine LamX.walk_ofTsE (l := PySem.Challenge.rw_makebook_k01_whole_types_and_partings) (n := 63) (k := 17) (x := "script") (CX := fun w => L2.CX (PySem.Challenge.rw_makebook_k01_whole_types_and_partings).prog w) rfl (by decide) (by kernel_rfl) ⟨rfl, by decide, by decide⟩ ?F (fun _ _ _ _ _ z => PD.cx_none z)
    intro w mg fa h Y G hmg0
    obtain ⟨K, KX, c⟩ := Y
    have hmg : mg ("law" : PySem.Str) = some (.ref fa) := by
      have e : (HandSHeadRun.topDef (OpenLaw.row PySem.Challenge.rw_makebook_k01_whole_types_and_partings).prog 41).name = ("law" : PySem.Str) := by kernel_rfl
      rw [← e]
      exact hmg0
    exact ⟨K, KX, Lw.facts KX G hmg c Lw.plain⟩
