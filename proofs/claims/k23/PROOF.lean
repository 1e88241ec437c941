import PyProof.Rows.All
import Wide.All
import OpenK.AllK
import Wide.FinOn
import PySem.Challenge.RW_cursorkeys_k23_pieces_on_marks
import HandS.ForMost
import HandS.ForExc
import HandS.Evl
import HandS.Zip
import HandS.Style
import HandS.Wide
import HandS.IsInst
import HandS.TupAny
import HandS.TupLe
import HandS.Deep
import HandS.SortInts
import HandS.StrMore
import PyProof.ReprRoads
import HandS.Conv
import HandS.More
import HandS.NoneIn
import PyProof.ListStr
import KE.GoesMore
import KE.KRevSl
import HandS.Text
import PyProof.SliceStr2
import KE.KTupSum
import HandS.TupMul
import HandS.ExcValue
import HandS.ExcIs
import HandS.SetFor
import HandS.Strs
import PyProof.ReprLen
import PyProof.ReprBulk
set_option Elab.async false
set_option linter.all false
set_option maxRecDepth 100000
set_option maxHeartbeats 4000000
/-! the data layer, part 1: values as data, the store of lists, what stands for what -/
namespace Dl
open PySem
open PySem.Spec
open PyProof.Rows
open L2
open Evl (Ex)

abbrev D := PyData
/-- an error: its class by name, its fields -/
structure Exn where
  cn : Str
  fs : List (Str × D)
/-- other things a name may hold -/
inductive Ob where
  | exc (e : Exn)
  | cls (cn : Str)
  | scr (ns : List Int)
/-- what an expression hands over: data, or a list of the store by its number -/
inductive R where
  | d (x : D)
  | l (n : Nat)
  | o (b : Ob)
abbrev Sto := List (Option (List D))
structure Env where
  sl : List (Option R)
  st : Sto

def kD : Key → D
  | .inl i => .int i
  | .inr s => .str s
/-! ### a value that stands for data -/
mutual
inductive Rp (K : PySem.W.Frag) (H : Hp) : V → D → Prop
  | non : Rp K H .non .none
  | bl (b : Bool) : Rp K H (.bl b) (.bool b)
  | int (i : Int) : Rp K H (.int i) (.int i)
  | str (s : Str) : Rp K H (.str s) (.str s)
  | lst {a : Addr} {xs : List V} {ds : List D} : H a = some (.lst xs) → RpA K H xs ds → Rp K H (.ref a) (.list ds)
  | tup {a : Addr} {xs : List V} {ds : List D} : SqT K H a xs → RpA K H xs ds → Rp K H (.ref a) (.tuple ds)
  | dic {a : Addr} {kvs : List (Key × V)} {es : List (D × D)} : H a = some (.dK kvs) → RpK K H kvs es → Rp K H (.ref a) (.dict es)
inductive RpA (K : PySem.W.Frag) (H : Hp) : List V → List D → Prop
  | nil : RpA K H [] []
  | cons {v : V} {d : D} {vs : List V} {ds : List D} : Rp K H v d → RpA K H vs ds → RpA K H (v :: vs) (d :: ds)
inductive RpK (K : PySem.W.Frag) (H : Hp) : List (Key × V) → List (D × D) → Prop
  | nil : RpK K H [] []
  | cons {k : Key} {v : V} {d : D} {vs : List (Key × V)} {ds : List (D × D)} : Rp K H v d → RpK K H vs ds → RpK K H ((k, v) :: vs) ((kD k, d) :: ds)
end
mutual
theorem Rp.mono {K : PySem.W.Frag} {H H' : Hp} (e : Ex H H') : ∀ {v : V} {d : D}, Rp K H v d → Rp K H' v d
  | _, _, .non => .non
  | _, _, .bl b => .bl b
  | _, _, .int i => .int i
  | _, _, .str s => .str s
  | _, _, .lst h r => .lst (e _ _ h) (RpA.mono e r)
  | _, _, .tup h r => .tup (Evl.ex_t e h) (RpA.mono e r)
  | _, _, .dic h r => .dic (e _ _ h) (RpK.mono e r)
theorem RpA.mono {K : PySem.W.Frag} {H H' : Hp} (e : Ex H H') : ∀ {v : List V} {d : List D}, RpA K H v d → RpA K H' v d
  | _, _, .nil => .nil
  | _, _, .cons h r => .cons (Rp.mono e h) (RpA.mono e r)
theorem RpK.mono {K : PySem.W.Frag} {H H' : Hp} (e : Ex H H') : ∀ {v : List (Key × V)} {d : List (D × D)}, RpK K H v d → RpK K H' v d
  | _, _, .nil => .nil
  | _, _, .cons h r => .cons (Rp.mono e h) (RpK.mono e r)
end
section
variable {K : PySem.W.Frag} {H H' Hf Hf' : Hp} {v : V} {vs ws : List V} {d : D} {ds es : List D} {i : Nat}
theorem RpA.length : ∀ {vs : List V} {ds : List D}, RpA K H vs ds → vs.length = ds.length
  | _, _, .nil => rfl
  | _, _, .cons _ r => congrArg (· + 1) r.length
theorem RpA.get : ∀ {vs : List V} {ds : List D} {i : Nat} {v : V}, RpA K H vs ds → vs[i]? = some v → ∃ d, ds[i]? = some d ∧ Rp K H v d
  | _, _, _, _, .nil, e => by cases e
  | _, _, 0, _, .cons h _, e => ⟨_, rfl, by cases e; exact h⟩
  | _, _, i + 1, _, .cons _ r, e => r.get (i := i) e
theorem RpA.getD : ∀ {vs : List V} {ds : List D} {i : Nat} {d : D}, RpA K H vs ds → ds[i]? = some d → ∃ v, vs[i]? = some v ∧ Rp K H v d
  | _, _, _, _, .nil, e => by cases e
  | _, _, 0, _, .cons h _, e => ⟨_, rfl, by cases e; exact h⟩
  | _, _, i + 1, _, .cons _ r, e => r.getD (i := i) e
theorem RpA.append : ∀ {vs : List V} {ds : List D}, RpA K H vs ds → RpA K H ws es → RpA K H (vs ++ ws) (ds ++ es)
  | _, _, .nil, q => q
  | _, _, .cons h r, q => .cons h (r.append q)
theorem RpA.take : ∀ (n : Nat) {vs : List V} {ds : List D}, RpA K H vs ds → RpA K H (vs.take n) (ds.take n)
  | 0, _, _, _ => .nil
  | _ + 1, _, _, .nil => .nil
  | n + 1, _, _, .cons h r => .cons h (r.take n)
theorem RpA.drop : ∀ (n : Nat) {vs : List V} {ds : List D}, RpA K H vs ds → RpA K H (vs.drop n) (ds.drop n)
  | 0, _, _, r => r
  | _ + 1, _, _, .nil => .nil
  | n + 1, _, _, .cons _ r => r.drop n
theorem RpA.set : ∀ (n : Nat) {vs : List V} {ds : List D}, RpA K H vs ds → Rp K H v d → RpA K H (vs.set n v) (ds.set n d)
  | _, _, _, .nil, _ => .nil
  | 0, _, _, .cons _ r, q => .cons q r
  | n + 1, _, _, .cons h r, q => .cons h (r.set n q)
theorem RpA.reverse : ∀ {vs : List V} {ds : List D}, RpA K H vs ds → RpA K H vs.reverse ds.reverse
  | _, _, .nil => .nil
  | _, _, .cons h r => by
    rw [List.reverse_cons, List.reverse_cons]
    exact r.reverse.append (.cons h .nil)
theorem RpA.flat {n : Nat} (h : RpA K H vs ds) : RpA K H (List.replicate n vs).flatten (List.replicate n ds).flatten := by
  induction n with
  | zero => exact .nil
  | succ n ih =>
    rw [List.replicate_succ, List.replicate_succ, List.flatten_cons, List.flatten_cons]
    exact h.append ih
end
/-- data, or a list of the store as it stands in H (its items are frozen) -/
def RpH (K : PySem.W.Frag) (Hf H : Hp) (v : V) (d : D) : Prop :=
  Rp K Hf v d ∨ ∃ a xs ds, v = .ref a ∧ d = .list ds ∧ H a = some (.lst xs) ∧ RpA K Hf xs ds
section
variable {K : PySem.W.Frag} {H H' Hf Hf' : Hp} {v : V} {ds : List D}
theorem RpH.full {d : D} (e : Ex Hf H) : RpH K Hf H v d → Rp K H v d
  | .inl h => h.mono e
  | .inr ⟨_, _, _, h1, h2, h3, h4⟩ => by
    subst h1
    subst h2
    exact .lst h3 (h4.mono e)
theorem RpH.non (h : RpH K Hf H v .none) : v = .non := by
  rcases h with h | ⟨_, _, _, _, h, _⟩
  · cases h
    rfl
  · cases h
theorem RpH.bl {b : Bool} (h : RpH K Hf H v (.bool b)) : v = .bl b := by
  rcases h with h | ⟨_, _, _, _, h, _⟩
  · cases h
    rfl
  · cases h
theorem RpH.int {i : Int} (h : RpH K Hf H v (.int i)) : v = .int i := by
  rcases h with h | ⟨_, _, _, _, h, _⟩
  · cases h
    rfl
  · cases h
theorem RpH.str {s : Str} (h : RpH K Hf H v (.str s)) : v = .str s := by
  rcases h with h | ⟨_, _, _, _, h, _⟩
  · cases h
    rfl
  · cases h
theorem RpH.list (e : Ex Hf H) (h : RpH K Hf H v (.list ds)) : ∃ a xs, v = .ref a ∧ H a = some (.lst xs) ∧ RpA K Hf xs ds := by
  rcases h with h | ⟨a, xs, es, h1, h2, h3, h4⟩
  · cases h with
    | lst h r => exact ⟨_, _, rfl, e _ _ h, r⟩
  · cases h2
    exact ⟨a, xs, h1, h3, h4⟩
theorem RpH.tup (h : RpH K Hf H v (.tuple ds)) : ∃ a xs, v = .ref a ∧ SqT K Hf a xs ∧ RpA K Hf xs ds := by
  rcases h with h | ⟨_, _, _, _, h, _⟩
  · cases h with
    | tup h r => exact ⟨_, _, rfl, h, r⟩
  · cases h
end
/-! ### the state -/
/-- an exception object of the class cls at a -/
def ExcH (cls : Value) (a : Addr) : HO := .ext fun h => ∃ (oe : Obj) (vs : Array Value), h.get? a = some oe ∧ Zc cls none oe ∧ oe.data = .fields vs
def ObR (K : PySem.W.Frag) (mg : Str → Option Value) (H : Hp) (v : V) : Ob → Prop
  | .exc e => e.fs = [] ∧ ∃ a C, v = .ref a ∧ mg e.cn = some (.ref C) ∧ H a = some (ExcH (.ref C) a)
  | .cls cn => ∃ C, v = .ref C ∧ mg cn = some (.ref C)
  | .scr ns => ∃ a, v = .ref a ∧ SqL K H a (ns.map V.int)
theorem ObR.mono {K : PySem.W.Frag} {mg : Str → Option Value} {H H' : Hp} {v : V} (e : Ex H H') : ∀ {b : Ob}, ObR K mg H v b → ObR K mg H' v b
  | .exc _, ⟨h0, a, C, h1, h2, h3⟩ => ⟨h0, a, C, h1, h2, e _ _ h3⟩
  | .cls _, h => h
  | .scr _, ⟨a, h1, h2⟩ => ⟨a, h1, Evl.ex_l e h2⟩
def RelR (K : PySem.W.Frag) (mg : Str → Option Value) (am : List Addr) (Hf : Hp) (v : V) : R → Prop
  | .d x => Rp K Hf v x
  | .l n => ∃ a, v = .ref a ∧ am[n]? = some a
  | .o b => ObR K mg Hf v b
structure Sim (K : PySem.W.Frag) (mg : Str → Option Value) (am : List Addr) (Hf H : Hp) (s : L2.St) (r : Env) : Prop where
  le : Ex Hf H
  len : r.st.length = am.length
  nd : am.Nodup
  tr : ∀ a ∈ am, H a ≠ none
  live : ∀ (n : Nat) (a : Addr) (ds : List D), am[n]? = some a → r.st[n]? = some (some ds) → Hf a = none ∧ ∃ xs, H a = some (.lst xs) ∧ RpA K Hf xs ds
  sl : ∀ (i : Nat) (x : R), r.sl[i]? = some (some x) → ∃ v, s[i]? = some (some v) ∧ RelR K mg am Hf v x
  sz : r.sl.length = s.length
/-- from one state to a later one -/
structure Stp (am : List Addr) (Hf H : Hp) (am' : List Addr) (Hf' H' : Hp) : Prop where
  pre : ∃ t, am' = am ++ t
  nw : ∀ b ∈ am', b ∈ am ∨ H b = none
  le : Ex Hf Hf'
  old : ∀ b o, H b = some o → b ∉ am → H' b = some o
  fz : ∀ b o, Hf' b = some o → Hf b = some o ∨ H b = none ∨ b ∈ am
  kp : ∀ b, H b ≠ none → H' b ≠ none
section
variable {K : PySem.W.Frag} {mg : Str → Option Value} {am am1 am2 : List Addr} {Hf Hf1 Hf2 H H1 H2 : Hp} {s s' : L2.St} {r r' : Env} {v : V} {x : R}
theorem Stp.refl : Stp am Hf H am Hf H := ⟨⟨[], by simp⟩, fun _ h => .inl h, Evl.Ex.refl _, fun _ _ h _ => h, fun _ _ h => .inl h, fun _ h => h⟩
theorem Stp.trans (a : Stp am Hf H am1 Hf1 H1) (b : Stp am1 Hf1 H1 am2 Hf2 H2) : Stp am Hf H am2 Hf2 H2 := by
  obtain ⟨t, e1⟩ := a.pre
  obtain ⟨u, e2⟩ := b.pre
  have back : ∀ b, H1 b = none → H b = none := fun b h => by
    cases q : H b with
    | none => rfl
    | some o => exact absurd h (a.kp b (by rw [q]; simp))
  refine ⟨⟨t ++ u, by rw [e2, e1, List.append_assoc]⟩, fun c hc => ?_, a.le.trans b.le, fun c o h hn => ?_, fun c o h => ?_, fun c h => b.kp c (a.kp c h)⟩
  · rcases b.nw c hc with h | h
    · exact a.nw c h
    · exact .inr (back c h)
  · refine b.old c o (a.old c o h hn) fun hm => ?_
    rcases a.nw c hm with q | q
    · exact hn q
    · rw [h] at q
      cases q
  · rcases b.fz c o h with q | q | q
    · exact a.fz c o q
    · exact .inr (.inl (back c q))
    · rcases a.nw c q with q | q
      · exact .inr (.inr q)
      · exact .inr (.inl q)
theorem Stp.at {n : Nat} {a : Addr} (q : Stp am Hf H am1 Hf1 H1) (h : am[n]? = some a) : am1[n]? = some a := by
  obtain ⟨t, e⟩ := q.pre
  rw [e, List.getElem?_append_left (List.getElem?_eq_some_iff.mp h).1]
  exact h
theorem RelR.mono (q : Stp am Hf H am1 Hf1 H1) (h : RelR K mg am Hf v x) : RelR K mg am1 Hf1 v x := by
  cases x with
  | d x => exact Rp.mono q.le h
  | l n =>
    obtain ⟨a, e, h⟩ := h
    exact ⟨a, e, q.at h⟩
  | o b => exact ObR.mono q.le h
/-- a pure growth: nothing of the store is touched -/
structure Grow (Hf H Hf' H' : Hp) : Prop where
  lf : Ex Hf Hf'
  lh : Ex H H'
  ff : Ex Hf' H'
  fz : ∀ b o, Hf' b = some o → Hf b = some o ∨ H b = none
theorem Grow.refl (e : Ex Hf H) : Grow Hf H Hf H := ⟨Evl.Ex.refl _, Evl.Ex.refl _, e, fun _ _ h => .inl h⟩
theorem Grow.stp (g : Grow Hf H Hf1 H1) : Stp am Hf H am Hf1 H1 := ⟨⟨[], by simp⟩, fun _ h => .inl h, g.lf, fun b o h _ => g.lh b o h, fun b o h => (g.fz b o h).elim .inl fun q => .inr (.inl q), fun b h z => by
  cases q : H b with
  | none => exact h q
  | some o =>
    rw [g.lh b o q] at z
    cases z⟩
theorem Sim.grow (S : Sim K mg am Hf H s r) (g : Grow Hf H Hf1 H1) : Sim K mg am Hf1 H1 s r := by
  refine ⟨g.ff, S.len, S.nd, fun a ha z => ?_, fun n a ds h1 h2 => ?_, fun i x h => ?_, S.sz⟩
  · exact (g.stp (am := am)).kp a (S.tr a ha) z
  · obtain ⟨h3, xs, h4, h5⟩ := S.live n a ds h1 h2
    refine ⟨?_, xs, g.lh _ _ h4, h5.mono g.lf⟩
    cases q : Hf1 a with
    | none => rfl
    | some o =>
      rcases g.fz a o q with z | z
      · rw [h3] at z
        cases z
      · rw [h4] at z
        cases z
  · obtain ⟨v, h1, h2⟩ := S.sl i x h
    exact ⟨v, h1, h2.mono (g.stp (am := am) (H := H) (H1 := H1))⟩
/-- a new object, known as data at once -/
theorem Grow.new {p : Addr} {o : HO} (e : Ex Hf H) (h : H p = none) : Grow Hf H (upd Hf p o) (upd H p o) := by
  have hf : Hf p = none := Evl.fresh_back e h
  refine ⟨Evl.Ex.new hf, Evl.Ex.new h, fun b u q => ?_, fun b u q => ?_⟩
  · by_cases hb : b = p
    · rw [hb, upd_same] at q ⊢
      exact q
    · rw [upd_ne hb] at q ⊢
      exact e b u q
  · by_cases hb : b = p
    · right
      rw [hb]
      exact h
    · rw [upd_ne hb] at q
      exact .inl q
/-- a new object that is not data (never looked at again) -/
theorem Grow.lost {p : Addr} {o : HO} (e : Ex Hf H) (h : H p = none) : Grow Hf H Hf (upd H p o) :=
  ⟨Evl.Ex.refl _, Evl.Ex.new h, e.trans (Evl.Ex.new h), fun _ _ q => .inl q⟩
theorem Grow.trans (a : Grow Hf H Hf1 H1) (b : Grow Hf1 H1 Hf2 H2) : Grow Hf H Hf2 H2 :=
  ⟨a.lf.trans b.lf, a.lh.trans b.lh, b.ff, fun c o h => by
    rcases b.fz c o h with q | q
    · exact a.fz c o q
    · exact .inr (Evl.fresh_back a.lh q)⟩
end

/-! ### the data programs -/
abbrev KE := R → Env → Prop
abbrev XQ := Exn → Env → Prop
/-- an expression; one that makes a list; a test; arguments; what is walked; a statement -/
abbrev WE := Env → KE → XQ → Prop
abbrev WL := Env → (List D → Env → Prop) → XQ → Prop
abbrev WT := Env → (Bool → Env → Prop) → XQ → Prop
abbrev WA := Env → (List R → Env → Prop) → XQ → Prop
structure Post where
  nx : Env → Prop
  rt : R → Env → Prop
  bk : Env → Prop
  ct : Env → Prop
  ex : XQ
abbrev WS := Env → Post → Prop

def lstAt (r : Env) (n : Nat) (k : List D → Prop) : Prop := match r.st[n]? with
  | some (some ds) => k ds
  | _ => False
/-- the data that stands behind -/
def dref (x : R) (r : Env) (k : D → Prop) : Prop := match x with
  | .d x => k x
  | .l n => lstAt r n fun ds => k (.list ds)
  | .o _ => False
def R.kill (n : Nat) (d : D) : R → R
  | .l m => if m = n then .d d else .l m
  | x => x
def Env.kill (r : Env) (n : Nat) (d : D) : Env := ⟨r.sl.map fun x => x.map (R.kill n d), r.st.set n none⟩
/-- .. for good: a list of the store is one no longer -/
def frz (x : R) (r : Env) (k : D → Env → Prop) : Prop := match x with
  | .d x => k x r
  | .l n => lstAt r n fun ds => k (.list ds) (r.kill n (.list ds))
  | .o _ => False
def Env.put (r : Env) (i : Nat) (x : R) : Env := ⟨r.sl.set i (some x), r.st⟩

/-- an exception as the layer below has it -/
def ExR (K : PySem.W.Frag) (mg : Str → Option Value) (H : Hp) (e : Exn) (C : Value) (d : Option Addr) : Prop :=
  ∃ c, mg e.cn = some (.ref c) ∧ C = .ref c ∧ ((e.fs = [] ∧ d = none) ∨ ∃ b vs, e.fs ≠ [] ∧ d = some b ∧ H b = some (.xd vs) ∧ Paired (fun (p : Str × V) (q : Str × D) => p.1 = q.1 ∧ Rp K H p.2 q.2) vs e.fs)

/-! ### the readings -/
section
variable (K : PySem.W.Frag) (mg : Str → Option Value) (W : WX)
def XC (x : XQ) (am : List Addr) (Hf H : Hp) (s : L2.St) : Prop :=
  ∀ e r' am' Hf' H' s' C d, Stp am Hf H am' Hf' H' → Sim K mg am' Hf' H' s' r' → s' = s → ExR K mg H' e C d → x e r' → W C d s' H'
def XS (x : XQ) (am : List Addr) (Hf H : Hp) : Prop :=
  ∀ e r' am' Hf' H' s' C d, Stp am Hf H am' Hf' H' → Sim K mg am' Hf' H' s' r' → ExR K mg H' e C d → x e r' → W C d s' H'
def tE (w : WE) : TE := fun s H Q => ∃ am Hf r k x, Sim K mg am Hf H s r ∧ w r k x ∧
  (∀ y r' am' Hf' H' v, Stp am Hf H am' Hf' H' → Sim K mg am' Hf' H' s r' → RelR K mg am' Hf' v y → k y r' → Q v H') ∧ XC K mg W x am Hf H s
def tL (w : WL) : TE := fun s H Q => ∃ am Hf r k x, Sim K mg am Hf H s r ∧ w r k x ∧
  (∀ ds r' am' Hf' H' a xs, Stp am Hf H am' Hf' H' → Sim K mg am' Hf' H' s r' → H' a = some (.lst xs) → Hf' a = none → a ∉ am' → H a = none → RpA K Hf' xs ds → k ds r' → Q (.ref a) H') ∧ XC K mg W x am Hf H s
def tT (w : WT) : TT := fun s H Q => ∃ am Hf r k x, Sim K mg am Hf H s r ∧ w r k x ∧
  (∀ b r' am' Hf' H', Stp am Hf H am' Hf' H' → Sim K mg am' Hf' H' s r' → k b r' → Q b H') ∧ XC K mg W x am Hf H s
def tA (w : WA) : TA := fun s H Q => ∃ am Hf r k x, Sim K mg am Hf H s r ∧ w r k x ∧
  (∀ ys r' am' Hf' H' vs, Stp am Hf H am' Hf' H' → Sim K mg am' Hf' H' s r' → Paired (RelR K mg am' Hf') vs ys → k ys r' → Q vs H') ∧ XC K mg W x am Hf H s
def tS (w : WS) : TS := fun Z s H => ∃ am Hf r p, Sim K mg am Hf H s r ∧ w r p ∧
  (∀ r' am' Hf' H' s', Stp am Hf H am' Hf' H' → Sim K mg am' Hf' H' s' r' → p.nx r' → Z.nx s' H') ∧
  (∀ y r' am' Hf' H' s' v, Stp am Hf H am' Hf' H' → Sim K mg am' Hf' H' s' r' → RelR K mg am' Hf' v y → p.rt y r' → Z.rt v H') ∧
  (∀ r' am' Hf' H' s', Stp am Hf H am' Hf' H' → Sim K mg am' Hf' H' s' r' → p.bk r' → Z.bk s' H') ∧
  (∀ r' am' Hf' H' s', Stp am Hf H am' Hf' H' → Sim K mg am' Hf' H' s' r' → p.ct r' → Z.ct s' H') ∧ XS K mg W p.ex am Hf H
end
abbrev SE (X : Cx) (W : WX) (e : Expr) (w : WE) : Prop := PE X e (tE X.K X.mg W w)
abbrev SL (X : Cx) (W : WX) (e : Expr) (w : WL) : Prop := PE X e (tL X.K X.mg W w)
abbrev ST (X : Cx) (W : WX) (e : Expr) (w : WT) : Prop := PT X e (tT X.K X.mg W w)
abbrev SW (X : Cx) (W : WX) (e : Expr) (w : WT) : Prop := PW X e (tT X.K X.mg W w)
abbrev SA (X : Cx) (W : WX) (es : List Expr) (w : WA) : Prop := PA X es (tA X.K X.mg W w)
abbrev SS (X : Cx) (W : WX) (st : Stmt) (w : WS) : Prop := PS X st (tS X.K X.mg W w)
abbrev SB (X : Cx) (W : WX) (st : List Stmt) (w : WS) : Prop := PSs X st (tS X.K X.mg W w)

section
variable {X : Cx} {e : Expr} {st : Stmt}
theorem peI {t t' : TE} (h : PE X e t) (i : ∀ s H Q, t' s H Q → t s H Q) : PE X e t' := ⟨fun pins s σ H Q I q => h.run pins s σ H Q I (i _ _ _ q)⟩
theorem ptI {t t' : TT} (h : PT X e t) (i : ∀ s H Q, t' s H Q → t s H Q) : PT X e t' := ⟨fun pins s σ H Q I q => h.run pins s σ H Q I (i _ _ _ q)⟩
theorem pwI {t t' : TT} (h : PW X e t) (i : ∀ s H Q, t' s H Q → t s H Q) : PW X e t' := ⟨fun wh pins s σ H Q I q => h.run wh pins s σ H Q I (i _ _ _ q)⟩
theorem paI {es : List Expr} {t t' : TA} (h : PA X es t) (i : ∀ s H Q, t' s H Q → t s H Q) : PA X es t' := ⟨fun p pins s σ H Q I q => h.run p pins s σ H Q I (i _ _ _ q)⟩
theorem psI {t t' : TS} (h : PS X st t) (i : ∀ Z s H, t' Z s H → t Z s H) : PS X st t' := ⟨fun pins s σ H Z I q => h.run pins s σ H Z I (i _ _ _ q)⟩
theorem pssI {sts : List Stmt} {t t' : TS} (h : PSs X sts t) (i : ∀ Z s H, t' Z s H → t Z s H) : PSs X sts t' := ⟨fun pins s σ H Z I q => h.run pins s σ H Z I (i _ _ _ q)⟩
end
section
variable {K : PySem.W.Frag} {mg : Str → Option Value} {W : WX} {am am1 : List Addr} {Hf Hf1 H H1 : Hp} {s : L2.St} {r : Env} {v : V} {y : R} {x : XQ}
theorem XC.next (h : XC K mg W x am Hf H s) (q : Stp am Hf H am1 Hf1 H1) : XC K mg W x am1 Hf1 H1 s := fun e r' am' Hf' H' s' C d st S es er hx => h e r' am' Hf' H' s' C d (q.trans st) S es er hx
theorem XS.next (h : XS K mg W x am Hf H) (q : Stp am Hf H am1 Hf1 H1) : XS K mg W x am1 Hf1 H1 := fun e r' am' Hf' H' s' C d st S er hx => h e r' am' Hf' H' s' C d (q.trans st) S er hx
theorem XS.at (h : XS K mg W x am Hf H) : XC K mg W x am Hf H s := fun e r' am' Hf' H' s' C d st S _ er hx => h e r' am' Hf' H' s' C d st S er hx
theorem dref_ok {k : D → Prop} (S : Sim K mg am Hf H s r) (h : RelR K mg am Hf v y) (q : dref y r k) : ∃ d, RpH K Hf H v d ∧ k d := by
  cases y with
  | d x => exact ⟨x, .inl h, q⟩
  | l n =>
    obtain ⟨a, rfl, ha⟩ := h
    unfold dref lstAt at q
    cases e : r.st[n]? with
    | none => simp [e] at q
    | some o =>
      cases o with
      | none => simp [e] at q
      | some ds =>
        simp only [e] at q
        obtain ⟨_, xs, h1, h2⟩ := S.live n a ds ha e
        exact ⟨_, .inr ⟨a, xs, ds, rfl, rfl, h1, h2⟩, q⟩
  | o b => exact q.elim
theorem frz_ok {k : D → Env → Prop} (S : Sim K mg am Hf H s r) (h : RelR K mg am Hf v y) (q : frz y r k) : ∃ d r' Hf', Stp am Hf H am Hf' H ∧ Sim K mg am Hf' H s r' ∧ Rp K Hf' v d ∧ k d r' := by
  cases y with
  | d x => exact ⟨x, r, Hf, .refl, S, h, q⟩
  | l n =>
    obtain ⟨a, rfl, ha⟩ := h
    unfold frz lstAt at q
    cases e : r.st[n]? with
    | none => simp [e] at q
    | some o =>
      cases o with
      | none => simp [e] at q
      | some ds =>
        simp only [e] at q
        obtain ⟨h0, xs, h1, h2⟩ := S.live n a ds ha e
        have lf : Ex Hf (upd Hf a (.lst xs)) := Evl.Ex.new h0
        have hr : Rp K (upd Hf a (.lst xs)) (.ref a) (.list ds) := .lst upd_same (h2.mono lf)
        refine ⟨_, _, upd Hf a (.lst xs), ⟨⟨[], by simp⟩, fun _ z => .inl z, lf, fun _ _ z _ => z, fun b o z => ?_, fun _ z => z⟩, ⟨fun b o z => ?_, ?_, S.nd, S.tr, fun m b es hb hs => ?_, fun i x hx => ?_, ?_⟩, hr, q⟩
        · by_cases hb : b = a
          · rw [hb]
            exact .inr (.inr (List.mem_of_getElem? ha))
          · rw [upd_ne hb] at z
            exact .inl z
        · by_cases hb : b = a
          · rw [hb, upd_same] at z
            rw [hb, h1]
            exact z
          · rw [upd_ne hb] at z
            exact S.le b o z
        · show (r.st.set n none).length = am.length
          rw [List.length_set]
          exact S.len
        · have hmn : m ≠ n := fun z => by
            have hs' : (r.st.set n none)[m]? = some (some es) := hs
            rw [z, List.getElem?_set_self (List.getElem?_eq_some_iff.mp e).1] at hs'
            cases hs'
          have hs' : r.st[m]? = some (some es) := by
            have hs' : (r.st.set n none)[m]? = some (some es) := hs
            rwa [List.getElem?_set_ne (Ne.symm hmn)] at hs'
          have hba : b ≠ a := fun z => hmn (by
            rw [z] at hb
            exact nd_ix S.nd hb ha)
          obtain ⟨g0, ys, g1, g2⟩ := S.live m b es hb hs'
          exact ⟨by rw [upd_ne hba]; exact g0, ys, g1, g2.mono lf⟩
        · have hx' : (r.sl.map fun x => x.map (R.kill n (.list ds)))[i]? = some (some x) := hx
          rw [List.getElem?_map] at hx'
          cases e2 : r.sl[i]? with
          | none =>
            rw [e2] at hx'
            cases hx'
          | some z =>
            rw [e2] at hx'
            cases z with
            | none => cases hx'
            | some z =>
              have hz : R.kill n (.list ds) z = x := by simpa using hx'
              obtain ⟨w, hw, hr2⟩ := S.sl i z e2
              refine ⟨w, hw, ?_⟩
              cases z with
              | d y =>
                subst hz
                exact Rp.mono lf hr2
              | l m =>
                obtain ⟨b, rfl, hb⟩ := hr2
                by_cases hmn : m = n
                · have e3 : x = .d (.list ds) := by
                    rw [← hz]
                    exact if_pos hmn
                  rw [e3]
                  have : b = a := by
                    rw [hmn, ha] at hb
                    exact (Option.some.inj hb).symm
                  rw [this]
                  exact hr
                · have e3 : x = .l m := by
                    rw [← hz]
                    exact if_neg hmn
                  rw [e3]
                  exact ⟨b, rfl, hb⟩
              | o b =>
                subst hz
                exact ObR.mono lf hr2
        · show (r.sl.map _).length = s.length
          rw [List.length_map]
          exact S.sz
  | o b => exact q.elim
end
end Dl

/-! the data layer, part 2: expressions -/
namespace Dl
open PySem
open PySem.Spec
open PyProof.Rows
open L2
open Evl (Ex)

theorem relB {K : PySem.W.Frag} {mg : Str → Option Value} {am : List Addr} {Hf : Hp} {b : Bool} : RelR K mg am Hf (V.bl b) (.d (.bool b)) := Rp.bl b
/-! ### names, constants -/
def wVar (i : Nat) : WE := fun r k _ => match r.sl[i]? with
  | some (some y) => k y r
  | _ => False
def wC (d : D) : WE := fun r k _ => k (.d d) r
def wO (b : Ob) : WE := fun r k _ => k (.o b) r
section
variable {X : Cx} {W : WX} {pos : Pos}
theorem se_var (i : Nat) {x : Str} (hN : X.N[i]? = some x := by rfl) (hv : Vis X.env.scope x := by first | exact Or.inl rfl | exact Or.inr (Or.inl rfl) | exact Or.inr (Or.inr rfl)) (hd : (x == ("__debug__" : Str)) = false := by decide)
    (hcd : (x == ("__classdict__" : Str)) = false := by decide) : SE X W (.Name x pos) (wVar i) := by
  refine peI (pe_var hN hv hd hcd) fun s H Q h => ?_
  obtain ⟨am, Hf, r, k, x, S, hw, hk, hx⟩ := h
  unfold wVar at hw
  cases e : r.sl[i]? with
  | none => simp [e] at hw
  | some o =>
    cases o with
    | none => simp [e] at hw
    | some y =>
      simp only [e] at hw
      obtain ⟨v, h1, h2⟩ := S.sl i y e
      exact ⟨v, h1, hk y r am Hf H v .refl S h2 hw⟩
/-- any expression that is a constant -/
theorem se_k {e : Expr} {v : V} {d : D} (h : PE X e (tC v)) (hr : ∀ H, Rp X.K H v d) : SE X W e (wC d) := by
  refine peI h fun s H Q h => ?_
  obtain ⟨am, Hf, r, k, x, S, hw, hk, hx⟩ := h
  exact hk (.d d) r am Hf H v .refl S (hr Hf) hw
theorem se_int {i j} : SE X W (.Constant (.int i) j pos) (wC (.int i)) := se_k pe_int fun _ => .int _
theorem se_bl {b j} : SE X W (.Constant (.bool b) j pos) (wC (.bool b)) := se_k pe_bl fun _ => .bl _
theorem se_non {j} : SE X W (.Constant .none j pos) (wC .none) := se_k pe_non fun _ => .non
theorem se_str {x z j} (h : x = z) : SE X W (.Constant (.str x) j pos) (wC (.str z)) := by
  subst h
  exact se_k pe_str fun _ => .str _
theorem se_gint {x : Str} {i : Int} {t : Tok} (hm : X.mg x = some (.int i t)) (hg : Gl X x := by rfl) (hd : (x == ("__debug__" : Str)) = false := by decide) : SE X W (.Name x pos) (wC (.int i)) := se_k (pe_glob (v := .int i) hg hm ⟨_, rfl⟩ hd) fun _ => .int _
theorem se_gstr {x z : Str} {t : Tok} (hm : X.mg x = some (.str z t)) (hg : Gl X x := by rfl) (hd : (x == ("__debug__" : Str)) = false := by decide) : SE X W (.Name x pos) (wC (.str z)) := se_k (pe_glob (v := .str z) hg hm ⟨_, rfl⟩ hd) fun _ => .str _
theorem se_gref {x : Str} {a : Addr} {d : D} (hm : X.mg x = some (.ref a)) (hr : ∀ H, Rp X.K H (.ref a) d) (hg : Gl X x := by rfl) (hd : (x == ("__debug__" : Str)) = false := by decide) : SE X W (.Name x pos) (wC d) := se_k (pe_glob (v := .ref a) hg hm rfl hd) hr
theorem se_gcls {x : Str} {a : Addr} (hm : X.mg x = some (.ref a)) (hg : Gl X x := by rfl) (hd : (x == ("__debug__" : Str)) = false := by decide) : SE X W (.Name x pos) (wO (.cls x)) := by
  refine peI (pe_glob (v := .ref a) hg hm rfl hd) fun s H Q h => ?_
  obtain ⟨am, Hf, r, k, y, S, hw, hk, hx⟩ := h
  exact hk (.o (.cls x)) r am Hf H _ .refl S ⟨a, rfl, hm⟩ hw
end

/-! ### operations by values -/
abbrev G1 := D → (D → Prop) → Prop
abbrev G2 := D → D → (D → Prop) → Prop
abbrev GA := List D → (D → Prop) → Prop
/-- what follows an operation that touches nothing: the answer is data -/
def Fol (K : PySem.W.Frag) (Hf H : Hp) (k : D → Prop) (Q : VK) : Prop := ∀ v d Hf' H', Grow Hf H Hf' H' → Rp K Hf' v d → k d → Q v H'
theorem Fol.here {K : PySem.W.Frag} {Hf H : Hp} {k : D → Prop} {Q : VK} {v : V} {d : D} (h : Fol K Hf H k Q) (e : Ex Hf H) (r : Rp K Hf v d) (q : k d) : Q v H := h v d Hf H (.refl e) r q
theorem Fol.new {K : PySem.W.Frag} {Hf H : Hp} {k : D → Prop} {Q : VK} {xs : List V} {ds : List D} {p : Addr} (h : Fol K Hf H k Q) (e : Ex Hf H) (r : RpA K Hf xs ds) (hp : H p = none) (q : k (.list ds)) : Q (.ref p) (upd H p (.lst xs)) := by
  refine h _ _ _ _ (.new e hp) (.lst upd_same (r.mono ?_)) q
  exact Ex.new (Evl.fresh_back e hp)
theorem Fol.newT {K : PySem.W.Frag} {Hf H : Hp} {k : D → Prop} {Q : VK} {xs : List V} {ds : List D} {p : Addr} (h : Fol K Hf H k Q) (e : Ex Hf H) (r : RpA K Hf xs ds) (hp : H p = none) (q : k (.tuple ds)) : Q (.ref p) (upd H p (.tup xs)) := by
  refine h _ _ _ _ (.new e hp) (.tup (Evl.st_of upd_same) (r.mono ?_)) q
  exact Ex.new (Evl.fresh_back e hp)
def Op2 (X : Cx) (f : Value → Value → Sem Value) (g : G2) : Prop := ∃ r, OpR X f r ∧ ∀ x y Hf H dx dy k Q, Ex Hf H → RpH X.K Hf H x dx → RpH X.K Hf H y dy → g dx dy k → Fol X.K Hf H k Q → r x y H Q
def Op1 (X : Cx) (f : Value → Sem Value) (g : G1) : Prop := ∃ r, UnR X f r ∧ ∀ x Hf H dx k Q, Ex Hf H → RpH X.K Hf H x dx → g dx k → Fol X.K Hf H k Q → r x H Q
inductive RpHs (K : PySem.W.Frag) (Hf H : Hp) : List V → List D → Prop
  | nil : RpHs K Hf H [] []
  | cons {v : V} {d : D} {vs : List V} {ds : List D} : RpH K Hf H v d → RpHs K Hf H vs ds → RpHs K Hf H (v :: vs) (d :: ds)
def OpC (X : Cx) (f : Value) (g : GA) : Prop := ∃ r, CallR X f r ∧ ∀ xs Hf H ds k Q, Ex Hf H → RpHs X.K Hf H xs ds → g ds k → Fol X.K Hf H k Q → r xs H Q
/-- both arms -/
def G2.or (g g' : G2) : G2 := fun x y k => g x y k ∨ g' x y k
def G1.or (g g' : G1) : G1 := fun x k => g x k ∨ g' x k
def GA.or (g g' : GA) : GA := fun x k => g x k ∨ g' x k
section
variable {X : Cx}
theorem Op2.or {f : Value → Value → Sem Value} {g g' : G2} (h : Op2 X f g) (h' : Op2 X f g') : Op2 X f (g.or g') := by
  obtain ⟨r, a, b⟩ := h
  obtain ⟨r', a', b'⟩ := h'
  exact ⟨_, a.or a', fun x y Hf H dx dy k Q e rx ry q F => q.elim (fun q => .inl (b x y Hf H dx dy k Q e rx ry q F)) fun q => .inr (b' x y Hf H dx dy k Q e rx ry q F)⟩
theorem Op2.imp {f : Value → Value → Sem Value} {g g' : G2} (h : Op2 X f g) (i : ∀ x y k, g' x y k → g x y k) : Op2 X f g' := by
  obtain ⟨r, a, b⟩ := h
  exact ⟨r, a, fun x y Hf H dx dy k Q e rx ry q F => b x y Hf H dx dy k Q e rx ry (i _ _ _ q) F⟩
theorem OpC.or {f : Value} {g g' : GA} (h : OpC X f g) (h' : OpC X f g') : OpC X f (g.or g') := by
  obtain ⟨r, a, b⟩ := h
  obtain ⟨r', a', b'⟩ := h'
  refine ⟨fun xs H Q => r xs H Q ∨ r' xs H Q, fun pins s σ H xs us Q I rv q => ?_, fun xs Hf H ds k Q e rx q F => q.elim (fun q => .inl (b xs Hf H ds k Q e rx q F)) fun q => .inr (b' xs Hf H ds k Q e rx q F)⟩
  rcases q with q | q
  · exact a pins s σ H xs us Q I rv q
  · exact a' pins s σ H xs us Q I rv q
theorem OpC.imp {f : Value} {g g' : GA} (h : OpC X f g) (i : ∀ x k, g' x k → g x k) : OpC X f g' := by
  obtain ⟨r, a, b⟩ := h
  exact ⟨r, a, fun xs Hf H ds k Q e rx q F => b xs Hf H ds k Q e rx (i _ _ q) F⟩
end
section
variable {K : PySem.W.Frag} {mg : Str → Option Value} {am am1 : List Addr} {Hf Hf1 H H1 : Hp} {s : L2.St} {r : Env} {v : V} {x : XQ}
/-- what stood for an R still does, in a later state -/
theorem fol_of {kk : KE} {Q : VK} (S : Sim K mg am Hf H s r) (hk : ∀ y r' am' Hf' H' v, Stp am Hf H am' Hf' H' → Sim K mg am' Hf' H' s r' → RelR K mg am' Hf' v y → kk y r' → Q v H') : Fol K Hf H (fun d => kk (.d d) r) Q :=
  fun v d Hf' H' g rp q => hk (.d d) r am Hf' H' v g.stp (S.grow g) rp q
end
def wOp2 (g : G2) (wa wb : WE) : WE := fun r k x => wa r (fun a r1 => wb r1 (fun b r2 => dref a r2 fun da => dref b r2 fun db => g da db fun d => k (.d d) r2) x) x
def wOp1 (g : G1) (wa : WE) : WE := fun r k x => wa r (fun a r1 => dref a r1 fun da => g da fun d => k (.d d) r1) x
section
variable {X : Cx} {W : WX} {pos : Pos} {a b c : Expr} {wa wb wc : WE}
/-- the heart of all two-place operations -/
theorem tOp_of {r : R2} {g : G2} {s : L2.St} {H : Hp} {Q : VK} (hr : ∀ x y Hf H dx dy k Q, Ex Hf H → RpH X.K Hf H x dx → RpH X.K Hf H y dy → g dx dy k → Fol X.K Hf H k Q → r x y H Q)
    (h : tE X.K X.mg W (wOp2 g wa wb) s H Q) : tOp r (tE X.K X.mg W wa) (tE X.K X.mg W wb) s H Q := by
  obtain ⟨am, Hf, e, k, x, S, hw, hk, hx⟩ := h
  refine ⟨am, Hf, e, _, x, S, hw, fun ya r1 am1 Hf1 H1 va p1 S1 ra q1 => ?_, hx⟩
  refine ⟨am1, Hf1, r1, _, x, S1, q1, fun yb r2 am2 Hf2 H2 vb p2 S2 rb q2 => ?_, hx.next p1⟩
  obtain ⟨da, rda, q3⟩ := dref_ok S2 (ra.mono p2) q2
  obtain ⟨db, rdb, q4⟩ := dref_ok S2 rb q3
  exact hr _ _ _ _ _ _ _ _ S2.le rda rdb q4 (fol_of S2 fun y r' am' Hf' H' v p S' rr q => hk y r' am' Hf' H' v ((p1.trans p2).trans p) S' rr q)
theorem se_op {op : Operator} {g : G2} (o : Op2 X (binaryOp op) g) (ha : SE X W a wa) (hb : SE X W b wb) : SE X W (.BinOp a op b pos) (wOp2 g wa wb) := by
  obtain ⟨r, ho, hr⟩ := o
  exact peI (pe_op ho ha hb) fun s H Q h => tOp_of hr h
theorem se_un {op : UnaryOp} {g : G1} (o : Op1 X (unaryOp op) g) (ha : SE X W a wa) : SE X W (.UnaryOp op a pos) (wOp1 g wa) := by
  obtain ⟨r, ho, hr⟩ := o
  refine peI (pe_un ho ha) fun s H Q h => ?_
  obtain ⟨am, Hf, e, k, x, S, hw, hk, hx⟩ := h
  refine ⟨am, Hf, e, _, x, S, hw, fun ya r1 am1 Hf1 H1 va p1 S1 ra q1 => ?_, hx⟩
  obtain ⟨da, rda, q3⟩ := dref_ok S1 ra q1
  exact hr _ _ _ _ _ _ S1.le rda q3 (fol_of S1 fun y r' am' Hf' H' v p S' rr q => hk y r' am' Hf' H' v (p1.trans p) S' rr q)
end
/-! ### comparisons: the answer is a truth value -/
abbrev GB := D → D → (Bool → Prop) → Prop
def FolB (Hf H : Hp) (k : Bool → Prop) (Q : VK) : Prop := ∀ b Hf' H', Grow Hf H Hf' H' → k b → Q (.bl b) H'
def OpB (X : Cx) (f : Value → Value → Sem Value) (g : GB) : Prop := ∃ r, OpR X f r ∧ ∀ x y Hf H dx dy k Q, Ex Hf H → RpH X.K Hf H x dx → RpH X.K Hf H y dy → g dx dy k → FolB Hf H k Q → r x y H Q
def GB.or (g g' : GB) : GB := fun x y k => g x y k ∨ g' x y k
section
variable {X : Cx} {W : WX} {pos : Pos} {a b c : Expr} {wa wb wc : WE}
theorem OpB.or {f : Value → Value → Sem Value} {g g' : GB} (h : OpB X f g) (h' : OpB X f g') : OpB X f (g.or g') := by
  obtain ⟨r, a, b⟩ := h
  obtain ⟨r', a', b'⟩ := h'
  exact ⟨_, a.or a', fun x y Hf H dx dy k Q e rx ry q F => q.elim (fun q => .inl (b x y Hf H dx dy k Q e rx ry q F)) fun q => .inr (b' x y Hf H dx dy k Q e rx ry q F)⟩
theorem OpB.imp {f : Value → Value → Sem Value} {g g' : GB} (h : OpB X f g) (i : ∀ x y k, g' x y k → g x y k) : OpB X f g' := by
  obtain ⟨r, a, b⟩ := h
  exact ⟨r, a, fun x y Hf H dx dy k Q e rx ry q F => b x y Hf H dx dy k Q e rx ry (i _ _ _ q) F⟩
def wCmp (g : GB) (wa wb : WE) : WE := fun r k x => wa r (fun a r1 => wb r1 (fun b r2 => dref a r2 fun da => dref b r2 fun db => g da db fun d => k (.d (.bool d)) r2) x) x
def wCmpT (g : GB) (wa wb : WE) : WT := fun r k x => wa r (fun a r1 => wb r1 (fun b r2 => dref a r2 fun da => dref b r2 fun db => g da db fun d => k d r2) x) x
theorem tCmp_of {r : R2} {g : GB} {s : L2.St} {H : Hp} {Q : VK} (hr : ∀ x y Hf H dx dy k Q, Ex Hf H → RpH X.K Hf H x dx → RpH X.K Hf H y dy → g dx dy k → FolB Hf H k Q → r x y H Q)
    (h : tE X.K X.mg W (wCmp g wa wb) s H Q) : tOp r (tE X.K X.mg W wa) (tE X.K X.mg W wb) s H Q := by
  obtain ⟨am, Hf, e, k, x, S, hw, hk, hx⟩ := h
  refine ⟨am, Hf, e, _, x, S, hw, fun ya r1 am1 Hf1 H1 va p1 S1 ra q1 => ?_, hx⟩
  refine ⟨am1, Hf1, r1, _, x, S1, q1, fun yb r2 am2 Hf2 H2 vb p2 S2 rb q2 => ?_, hx.next p1⟩
  obtain ⟨da, rda, q3⟩ := dref_ok S2 (ra.mono p2) q2
  obtain ⟨db, rdb, q4⟩ := dref_ok S2 rb q3
  exact hr _ _ _ _ _ _ _ _ S2.le rda rdb q4 fun b Hf' H' g q => hk _ r2 am2 Hf' H' _ ((p1.trans p2).trans g.stp) (S2.grow g) relB q
theorem tCmpT_of {r : R2} {g : GB} {s : L2.St} {H : Hp} {Q : Bool → Hp → Prop} (hr : ∀ x y Hf H dx dy k Q, Ex Hf H → RpH X.K Hf H x dx → RpH X.K Hf H y dy → g dx dy k → FolB Hf H k Q → r x y H Q)
    (h : tT X.K X.mg W (wCmpT g wa wb) s H Q) : tTest (tOp r (tE X.K X.mg W wa) (tE X.K X.mg W wb)) s H Q := by
  obtain ⟨am, Hf, e, k, x, S, hw, hk, hx⟩ := h
  refine ⟨am, Hf, e, _, x, S, hw, fun ya r1 am1 Hf1 H1 va p1 S1 ra q1 => ?_, hx⟩
  refine ⟨am1, Hf1, r1, _, x, S1, q1, fun yb r2 am2 Hf2 H2 vb p2 S2 rb q2 => ?_, hx.next p1⟩
  obtain ⟨da, rda, q3⟩ := dref_ok S2 (ra.mono p2) q2
  obtain ⟨db, rdb, q4⟩ := dref_ok S2 rb q3
  exact hr _ _ _ _ _ _ _ _ S2.le rda rdb q4 fun b Hf' H' g q => ⟨b, rfl, hk b r2 am2 Hf' H' ((p1.trans p2).trans g.stp) (S2.grow g) q⟩
theorem se_cmp {op : CmpOp} {g : GB} (o : OpB X (compareOp op) g) (ha : SE X W a wa) (hb : SE X W b wb) (hm : behindInMarks op b = false := by rfl) : SE X W (.Compare a [op] [b] pos) (wCmp g wa wb) := by
  obtain ⟨r, ho, hr⟩ := o
  exact peI (pe_cmpR ho ha hb hm) fun s H Q h => tCmp_of hr h
theorem st_cmp {op : CmpOp} {g : GB} (o : OpB X (compareOp op) g) (ha : SE X W a wa) (hb : SE X W b wb) (hm : behindInMarks op b = false := by rfl) : ST X W (.Compare a [op] [b] pos) (wCmpT g wa wb) := by
  obtain ⟨r, ho, hr⟩ := o
  exact ptI (pt_cmpR ho ha hb hm) fun s H Q h => tCmpT_of hr h
/-- a < b < c -/
def wChainT (g g' : GB) (wa wb wc : WE) : WT := fun r k x => wa r (fun a r1 => wb r1 (fun b r2 => dref a r2 fun da => dref b r2 fun db => g da db fun d => match d with
  | true => wc r2 (fun c r3 => dref b r3 fun db => dref c r3 fun dc => g' db dc fun d => k d r3) x
  | false => k false r2) x) x
def wChain (g g' : GB) (wa wb wc : WE) : WE := fun r k x => wChainT g g' wa wb wc r (fun b r1 => k (.d (.bool b)) r1) x
theorem chain_of {r r' : R2} {g g' : GB} {s : L2.St} {H : Hp} {Q : VK} (hr : ∀ x y Hf H dx dy k Q, Ex Hf H → RpH X.K Hf H x dx → RpH X.K Hf H y dy → g dx dy k → FolB Hf H k Q → r x y H Q)
    (hr' : ∀ x y Hf H dx dy k Q, Ex Hf H → RpH X.K Hf H x dx → RpH X.K Hf H y dy → g' dx dy k → FolB Hf H k Q → r' x y H Q)
    (h : tT X.K X.mg W (wChainT g g' wa wb wc) s H fun b H' => Q (.bl b) H') : tChain r r' (tE X.K X.mg W wa) (tE X.K X.mg W wb) (tE X.K X.mg W wc) s H Q := by
  obtain ⟨am, Hf, e, k, x, S, hw, hk, hx⟩ := h
  refine ⟨am, Hf, e, _, x, S, hw, fun ya r1 am1 Hf1 H1 va p1 S1 ra q1 => ?_, hx⟩
  refine ⟨am1, Hf1, r1, _, x, S1, q1, fun yb r2 am2 Hf2 H2 vb p2 S2 rb q2 => ?_, hx.next p1⟩
  obtain ⟨da, rda, q3⟩ := dref_ok S2 (ra.mono p2) q2
  obtain ⟨db, rdb, q4⟩ := dref_ok S2 rb q3
  refine hr _ _ _ _ _ _ _ _ S2.le rda rdb q4 fun t Hf' H' gr q5 => ⟨t, rfl, ?_⟩
  have S3 := S2.grow gr
  have p3 := (p1.trans p2).trans (gr.stp (am := am2))
  cases t with
  | true =>
    show tE X.K X.mg W wc s H' fun w' H4 => r' vb w' H4 Q
    refine ⟨am2, Hf', r2, _, x, S3, q5, fun yc r4 am4 Hf4 H4 vc p4 S4 rc q6 => ?_, hx.next p3⟩
    obtain ⟨db', rdb', q7⟩ := dref_ok S4 ((rb.mono (gr.stp (am := am2))).mono p4) q6
    obtain ⟨dc, rdc, q8⟩ := dref_ok S4 rc q7
    exact hr' _ _ _ _ _ _ _ _ S4.le rdb' rdc q8 fun b Hf' H' g q => hk b r4 am4 Hf' H' ((p3.trans p4).trans g.stp) (S4.grow g) q
  | false =>
    show Q (.bl false) H'
    exact hk false r2 am2 Hf' H' p3 S3 q5
theorem se_chain {op op' : CmpOp} {g g' : GB} (o : OpB X (compareOp op) g) (o' : OpB X (compareOp op') g') (ha : SE X W a wa) (hb : SE X W b wb) (hc : SE X W c wc)
    (hm : lastMarks [op, op'] [b, c] = false := by with_unfolding_all rfl) : SE X W (.Compare a [op, op'] [b, c] pos) (wChain g g' wa wb wc) := by
  obtain ⟨r, ho, hr⟩ := o
  obtain ⟨r', ho', hr'⟩ := o'
  refine peI (pe_chain ho ho' ha hb hc hm) fun s H Q h => chain_of hr hr' ?_
  obtain ⟨am, Hf, e, k, x, S, hw, hk, hx⟩ := h
  exact ⟨am, Hf, e, _, x, S, hw, fun b r' am' Hf' H' p S' q => hk _ r' am' Hf' H' _ p S' relB q, hx⟩
theorem st_chain {op op' : CmpOp} {g g' : GB} (o : OpB X (compareOp op) g) (o' : OpB X (compareOp op') g') (ha : SE X W a wa) (hb : SE X W b wb) (hc : SE X W c wc)
    (hm : lastMarks [op, op'] [b, c] = false := by with_unfolding_all rfl) : ST X W (.Compare a [op, op'] [b, c] pos) (wChainT g g' wa wb wc) := by
  obtain ⟨r, ho, hr⟩ := o
  obtain ⟨r', ho', hr'⟩ := o'
  refine ptI (pt_chain ho ho' ha hb hc hm) fun s H Q h => chain_of hr hr' ?_
  obtain ⟨am, Hf, e, k, x, S, hw, hk, hx⟩ := h
  exact ⟨am, Hf, e, _, x, S, hw, fun b r' am' Hf' H' p S' q => ⟨b, rfl, hk b r' am' Hf' H' p S' q⟩, hx⟩
end

/-! ### tests -/
def truD (d : D) : Option Bool := match d with
  | .none => some false
  | .bool b => some b
  | .int i => some (i != 0)
  | .str s => if s.length ≤ sizeLine then some ((s.length : Int) != 0) else none
  | .list ds => some (!ds.isEmpty)
  | .tuple ds => some (!ds.isEmpty)
  | .dict _ => none
def wTru (w : WE) : WT := fun r k x => w r (fun y r1 => dref y r1 fun d => match truD d with
  | some b => k b r1
  | none => False) x
theorem truV_of {K : PySem.W.Frag} {Hf H : Hp} {v : V} {d : D} {b : Bool} (e : Ex Hf H) (h : RpH K Hf H v d) (q : truD d = some b) : TruV K v H b := by
  cases d with
  | none =>
    rw [h.non]
    exact (Option.some.inj q).symm
  | bool c =>
    rw [h.bl]
    exact (Option.some.inj q).symm
  | int i =>
    rw [h.int]
    exact (Option.some.inj q).symm
  | str s =>
    rw [h.str]
    have q' : (if s.length ≤ sizeLine then some ((s.length : Int) != 0) else none) = some b := q
    by_cases hs : s.length ≤ sizeLine
    · rw [if_pos hs] at q'
      exact ⟨hs, (Option.some.inj q').symm⟩
    · rw [if_neg hs] at q'
      cases q'
  | list ds =>
    obtain ⟨a, xs, rfl, h1, h2⟩ := h.list e
    refine .inl ⟨xs, Evl.sq_of h1, ?_⟩
    have := Option.some.inj q
    rw [← this]
    cases h2 <;> rfl
  | tuple ds =>
    obtain ⟨a, xs, rfl, h1, h2⟩ := h.tup
    refine .inr (.inl ⟨xs, Evl.ex_t e h1, ?_⟩)
    have := Option.some.inj q
    rw [← this]
    cases h2 <;> rfl
  | dict es => cases q
section
variable {X : Cx} {W : WX} {pos : Pos} {a b c : Expr} {wa wb wc : WE} {ta tb : WT} {rest : List Expr}
theorem tru_of {s : L2.St} {H : Hp} {Q : Bool → Hp → Prop} (h : tT X.K X.mg W (wTru wa) s H Q) : tE X.K X.mg W wa s H fun x H' => ∃ k, TruV X.K x H' k ∧ Q k H' := by
  obtain ⟨am, Hf, e, k, x, S, hw, hk, hx⟩ := h
  refine ⟨am, Hf, e, _, x, S, hw, fun ya r1 am1 Hf1 H1 va p1 S1 ra q1 => ?_, hx⟩
  obtain ⟨da, rda, q3⟩ := dref_ok S1 ra q1
  cases q : truD da with
  | none =>
    rw [q] at q3
    exact q3.elim
  | some b =>
    rw [q] at q3
    exact ⟨b, truV_of S1.le rda q, hk b r1 am1 Hf1 H1 p1 S1 q3⟩
/-- any expression but not, and, or, comparisons, as a test -/
theorem st_tru (ha : SE X W a wa) (he : ∀ whole, isTrue a X.env whole = (do let v ← whole; standAt a.pos; holding [v] (truthy v)) := by intro _; rfl) : ST X W a (wTru wa) :=
  ptI (pt_truth ha he) fun s H Q h => tru_of h
/-! ### not, and, or -/
def wNotT (ta : WT) : WT := fun r k x => ta r (fun b r1 => k (!b) r1) x
def wAndT (ta tb : WT) : WT := fun r k x => ta r (fun b r1 => match b with
  | true => tb r1 k x
  | false => k false r1) x
def wOrT (ta tb : WT) : WT := fun r k x => ta r (fun b r1 => match b with
  | true => k true r1
  | false => tb r1 k x) x
theorem st_not (ha : ST X W a ta) : ST X W (.UnaryOp .Not a pos) (wNotT ta) := by
  refine ptI (pt_not ha) fun s H Q h => ?_
  obtain ⟨am, Hf, e, k, x, S, hw, hk, hx⟩ := h
  exact ⟨am, Hf, e, _, x, S, hw, fun b r' am' Hf' H' p S' q => hk (!b) r' am' Hf' H' p S' q, hx⟩
theorem sw_and1 (ha : ST X W a ta) : SW X W (.BoolOp .And [a] pos) ta := pw_and1 ha
theorem sw_or1 (ha : ST X W a ta) : SW X W (.BoolOp .Or [a] pos) ta := pw_or1 ha
theorem sw_and (ha : ST X W a ta) (hb : SW X W (.BoolOp .And (b :: rest) pos) tb) : SW X W (.BoolOp .And (a :: b :: rest) pos) (wAndT ta tb) := by
  refine pwI (pw_and ha hb) fun s H Q h => ?_
  obtain ⟨am, Hf, e, k, x, S, hw, hk, hx⟩ := h
  refine ⟨am, Hf, e, _, x, S, hw, fun b r1 am1 Hf1 H1 p1 S1 q => ?_, hx⟩
  cases b with
  | true =>
    show tT X.K X.mg W tb s H1 Q
    exact ⟨am1, Hf1, r1, k, x, S1, q, fun b r' am' Hf' H' p S' q => hk b r' am' Hf' H' (p1.trans p) S' q, hx.next p1⟩
  | false =>
    show Q false H1
    exact hk false r1 am1 Hf1 H1 p1 S1 q
theorem sw_or (ha : ST X W a ta) (hb : SW X W (.BoolOp .Or (b :: rest) pos) tb) : SW X W (.BoolOp .Or (a :: b :: rest) pos) (wOrT ta tb) := by
  refine pwI (pw_or ha hb) fun s H Q h => ?_
  obtain ⟨am, Hf, e, k, x, S, hw, hk, hx⟩ := h
  refine ⟨am, Hf, e, _, x, S, hw, fun b r1 am1 Hf1 H1 p1 S1 q => ?_, hx⟩
  cases b with
  | true =>
    show Q true H1
    exact hk true r1 am1 Hf1 H1 p1 S1 q
  | false =>
    show tT X.K X.mg W tb s H1 Q
    exact ⟨am1, Hf1, r1, k, x, S1, q, fun b r' am' Hf' H' p S' q => hk b r' am' Hf' H' (p1.trans p) S' q, hx.next p1⟩
theorem st_w (h : SW X W a ta) : ST X W a ta := h.pt
/-- as values: all but the last are truth values -/
def isB (y : R) (k : Bool → Prop) : Prop := match y with
  | .d (.bool b) => k b
  | _ => False
def wAndV (wa wb : WE) : WE := fun r k x => wa r (fun y r1 => isB y fun b => match b with
  | true => wb r1 k x
  | false => k (.d (.bool false)) r1) x
def wOrV (wa wb : WE) : WE := fun r k x => wa r (fun y r1 => isB y fun b => match b with
  | true => k (.d (.bool true)) r1
  | false => wb r1 k x) x
def wNotV (wa : WE) : WE := fun r k x => wa r (fun y r1 => isB y fun b => k (.d (.bool (!b))) r1) x
theorem isB_ok {K : PySem.W.Frag} {mg : Str → Option Value} {am : List Addr} {Hf : Hp} {v : V} {y : R} {k : Bool → Prop} (r : RelR K mg am Hf v y) (h : isB y k) : ∃ b, v = .bl b ∧ k b := by
  cases y with
  | d z =>
    cases z with
    | bool b =>
      cases r
      exact ⟨b, rfl, h⟩
    | _ => exact h.elim
  | _ => exact h.elim
theorem se_one {op} (h : SE X W a wa) : SE X W (.BoolOp op [a] pos) wa := pe_one h
theorem se_and (ha : SE X W a wa) (hb : SE X W (.BoolOp .And (b :: rest) pos) wb) : SE X W (.BoolOp .And (a :: b :: rest) pos) (wAndV wa wb) := by
  refine peI (pe_and ha hb) fun s H Q h => ?_
  obtain ⟨am, Hf, e, k, x, S, hw, hk, hx⟩ := h
  refine ⟨am, Hf, e, _, x, S, hw, fun y r1 am1 Hf1 H1 v p1 S1 rr q => ?_, hx⟩
  obtain ⟨c, rfl, q⟩ := isB_ok rr q
  refine ⟨c, rfl, ?_⟩
  cases c with
  | true =>
    show tE X.K X.mg W wb s H1 Q
    exact ⟨am1, Hf1, r1, k, x, S1, q, fun y r' am' Hf' H' v p S' rr q => hk y r' am' Hf' H' v (p1.trans p) S' rr q, hx.next p1⟩
  | false =>
    show Q (.bl false) H1
    exact hk _ r1 am1 Hf1 H1 _ p1 S1 relB q
theorem se_or (ha : SE X W a wa) (hb : SE X W (.BoolOp .Or (b :: rest) pos) wb) : SE X W (.BoolOp .Or (a :: b :: rest) pos) (wOrV wa wb) := by
  refine peI (pe_or ha hb) fun s H Q h => ?_
  obtain ⟨am, Hf, e, k, x, S, hw, hk, hx⟩ := h
  refine ⟨am, Hf, e, _, x, S, hw, fun y r1 am1 Hf1 H1 v p1 S1 rr q => ?_, hx⟩
  obtain ⟨c, rfl, q⟩ := isB_ok rr q
  refine ⟨c, rfl, ?_⟩
  cases c with
  | true =>
    show Q (.bl true) H1
    exact hk _ r1 am1 Hf1 H1 _ p1 S1 relB q
  | false =>
    show tE X.K X.mg W wb s H1 Q
    exact ⟨am1, Hf1, r1, k, x, S1, q, fun y r' am' Hf' H' v p S' rr q => hk y r' am' Hf' H' v (p1.trans p) S' rr q, hx.next p1⟩
theorem se_not (ha : SE X W a wa) : SE X W (.UnaryOp .Not a pos) (wNotV wa) := by
  refine peI (pe_not ha) fun s H Q h => ?_
  obtain ⟨am, Hf, e, k, x, S, hw, hk, hx⟩ := h
  refine ⟨am, Hf, e, _, x, S, hw, fun y r1 am1 Hf1 H1 v p1 S1 rr q => ?_, hx⟩
  obtain ⟨c, rfl, q⟩ := isB_ok rr q
  exact ⟨c, rfl, hk _ r1 am1 Hf1 H1 _ p1 S1 relB q⟩
def wIf (t : WT) (wa wb : WE) : WE := fun r k x => t r (fun b r1 => match b with
  | true => wa r1 k x
  | false => wb r1 k x) x
theorem se_if (hc : ST X W c ta) (ha : SE X W a wa) (hb : SE X W b wb) : SE X W (.IfExp c a b pos) (wIf ta wa wb) := by
  refine peI (pe_ifExp hc ha hb) fun s H Q h => ?_
  obtain ⟨am, Hf, e, k, x, S, hw, hk, hx⟩ := h
  refine ⟨am, Hf, e, _, x, S, hw, fun c r1 am1 Hf1 H1 p1 S1 q => ?_, hx⟩
  cases c with
  | true =>
    show tE X.K X.mg W wa s H1 Q
    exact ⟨am1, Hf1, r1, k, x, S1, q, fun y r' am' Hf' H' v p S' rr q => hk y r' am' Hf' H' v (p1.trans p) S' rr q, hx.next p1⟩
  | false =>
    show tE X.K X.mg W wb s H1 Q
    exact ⟨am1, Hf1, r1, k, x, S1, q, fun y r' am' Hf' H' v p S' rr q => hk y r' am' Hf' H' v (p1.trans p) S' rr q, hx.next p1⟩
end

/-! ### arguments, displays -/
def wNil : WA := fun r k _ => k [] r
def wCons (wa : WE) (wr : WA) : WA := fun r k x => wa r (fun y r1 => wr r1 (fun ys r2 => k (y :: ys) r2) x) x
def frzs : List R → Env → (List D → Env → Prop) → Prop
  | [], r, k => k [] r
  | y :: ys, r, k => frz y r fun d r1 => frzs ys r1 fun ds r2 => k (d :: ds) r2
def drefs : List R → Env → (List D → Prop) → Prop
  | [], _, k => k []
  | y :: ys, r, k => dref y r fun d => drefs ys r fun ds => k (d :: ds)
end Dl

/-! the data layer, part 3: arguments, displays, calls of built-ins, methods, subscripts, slices -/
namespace Dl
open PySem
open PySem.Spec
open PyProof.Rows
open L2
open Evl (Ex)

section
variable {K : PySem.W.Frag} {mg : Str → Option Value} {am : List Addr} {Hf H : Hp} {s : L2.St} {r : Env}
theorem drefs_ok (S : Sim K mg am Hf H s r) : ∀ {vs : List V} {ys : List R} {k : List D → Prop}, Paired (RelR K mg am Hf) vs ys → drefs ys r k → ∃ ds, RpHs K Hf H vs ds ∧ k ds
  | _, _, _, .nil, q => ⟨[], .nil, q⟩
  | _, _, _, .cons h t, q => by
    obtain ⟨d, h1, h2⟩ := dref_ok S h q
    obtain ⟨ds, h3, h4⟩ := drefs_ok S t h2
    exact ⟨d :: ds, .cons h1 h3, h4⟩
theorem PairR.mono {am1 : List Addr} {Hf1 H1 : Hp} (q : Stp am Hf H am1 Hf1 H1) : ∀ {vs : List V} {ys : List R}, Paired (RelR K mg am Hf) vs ys → Paired (RelR K mg am1 Hf1) vs ys
  | _, _, .nil => .nil
  | _, _, .cons h t => .cons (h.mono q) (PairR.mono q t)
/-- a value that stood for an entry stands for the data that the entry has become -/
theorem frzs_ok : ∀ {vs : List V} {ys : List R} {am : List Addr} {Hf H : Hp} {r : Env} {k : List D → Env → Prop}, Sim K mg am Hf H s r → Paired (RelR K mg am Hf) vs ys → frzs ys r k →
    ∃ ds r' Hf', Stp am Hf H am Hf' H ∧ Sim K mg am Hf' H s r' ∧ RpA K Hf' vs ds ∧ k ds r'
  | _, _, _, Hf, _, r, _, S, .nil, q => ⟨[], r, Hf, .refl, S, .nil, q⟩
  | _, _, am, Hf, H, r, k, S, .cons h t, q => by
    obtain ⟨d, r1, Hf1, p1, S1, h1, q1⟩ := frz_ok S h q
    obtain ⟨ds, r2, Hf2, p2, S2, h2, q2⟩ := frzs_ok S1 (PairR.mono p1 t) q1
    exact ⟨d :: ds, r2, Hf2, p1.trans p2, S2, .cons (h1.mono p2.le) h2, q2⟩
end
section
variable {X : Cx} {W : WX} {pos : Pos} {e : Expr} {es : List Expr} {we : WE} {wr : WA}
theorem sa_nil : SA X W [] wNil := by
  refine paI pa_nil fun s H Q h => ?_
  obtain ⟨am, Hf, r, k, x, S, hw, hk, hx⟩ := h
  exact hk [] r am Hf H [] .refl S .nil hw
theorem sa_cons (ha : SE X W e we) (hr : SA X W es wr) (hs : starEach (e :: es) X.env = (false, eval e X.env) :: starEach es X.env := by rfl) : SA X W (e :: es) (wCons we wr) := by
  refine paI (pa_cons ha hr hs) fun s H Q h => ?_
  obtain ⟨am, Hf, r, k, x, S, hw, hk, hx⟩ := h
  refine ⟨am, Hf, r, _, x, S, hw, fun y r1 am1 Hf1 H1 v p1 S1 rr q => ?_, hx⟩
  refine ⟨am1, Hf1, r1, _, x, S1, q, fun ys r2 am2 Hf2 H2 vs p2 S2 rs q2 => ?_, hx.next p1⟩
  exact hk (y :: ys) r2 am2 Hf2 H2 (v :: vs) (p1.trans p2) S2 (.cons (rr.mono p2) rs) q2
/-! ### a new list: as data, as a list of the store -/
def wDat (w : WL) : WE := fun r k x => w r (fun ds r1 => k (.d (.list ds)) r1) x
def wLoc (w : WL) : WE := fun r k x => w r (fun ds r1 => k (.l r1.st.length) ⟨r1.sl, r1.st ++ [some ds]⟩) x
theorem dat_of {wl : WL} {s : L2.St} {H : Hp} {Q : VK} (q : tE X.K X.mg W (wDat wl) s H Q) : tL X.K X.mg W wl s H Q := by
  obtain ⟨am, Hf, r, k, x, S, hw, hk, hx⟩ := q
  refine ⟨am, Hf, r, _, x, S, hw, fun ds r1 am1 Hf1 H1 a xs p1 S1 ha hf hn h0 ra q1 => ?_, hx⟩
  have lf : Ex Hf1 (upd Hf1 a (.lst xs)) := Evl.Ex.new hf
  refine hk (.d (.list ds)) r1 am1 (upd Hf1 a (.lst xs)) H1 _ ⟨p1.pre, p1.nw, p1.le.trans lf, p1.old, fun b o z => ?_, p1.kp⟩ ⟨fun b o z => ?_, S1.len, S1.nd, S1.tr, fun n b es h1 h2 => ?_, fun i y h1 => ?_, S1.sz⟩ (Rp.lst upd_same (ra.mono lf)) q1
  · by_cases hb : b = a
    · rw [hb]
      exact .inr (.inl h0)
    · rw [upd_ne hb] at z
      exact p1.fz b o z
  · by_cases hb : b = a
    · rw [hb, upd_same] at z
      rw [hb, ha]
      exact z
    · rw [upd_ne hb] at z
      exact S1.le b o z
  · obtain ⟨g0, ys, g1, g2⟩ := S1.live n b es h1 h2
    have hba : b ≠ a := fun z => hn (z ▸ List.mem_of_getElem? h1)
    exact ⟨by rw [upd_ne hba]; exact g0, ys, g1, g2.mono lf⟩
  · obtain ⟨v, g1, g2⟩ := S1.sl i y h1
    refine ⟨v, g1, ?_⟩
    cases y with
    | d z => exact Rp.mono lf g2
    | l n => exact g2
    | o b => exact ObR.mono lf g2
theorem se_dat {wl : WL} (h : SL X W e wl) : SE X W e (wDat wl) := peI h fun _ _ _ => dat_of
theorem loc_of {wl : WL} {s : L2.St} {H : Hp} {Q : VK} (q : tE X.K X.mg W (wLoc wl) s H Q) : tL X.K X.mg W wl s H Q := by
  obtain ⟨am, Hf, r, k, x, S, hw, hk, hx⟩ := q
  refine ⟨am, Hf, r, _, x, S, hw, fun ds r1 am1 Hf1 H1 a xs p1 S1 ha hf hn h0 ra q1 => ?_, hx⟩
  have hl : am1.length = r1.st.length := S1.len.symm
  have hat : (am1 ++ [a])[r1.st.length]? = some a := by
    rw [← hl, List.getElem?_append_right (Nat.le_refl _), Nat.sub_self]
    rfl
  have p2 : Stp am1 Hf1 H1 (am1 ++ [a]) Hf1 H1 → True := fun _ => trivial
  have old : ∀ {n : Nat} {b : Addr}, am1[n]? = some b → (am1 ++ [a])[n]? = some b := fun h => by
    rw [List.getElem?_append_left (List.getElem?_eq_some_iff.mp h).1]
    exact h
  refine hk (.l r1.st.length) ⟨r1.sl, r1.st ++ [some ds]⟩ (am1 ++ [a]) Hf1 H1 _ ⟨?_, fun b hb => ?_, p1.le, p1.old, p1.fz, p1.kp⟩ ⟨S1.le, ?_, ?_, fun b hb => ?_, fun n b es h1 h2 => ?_, fun i y h1 => ?_, S1.sz⟩ ⟨a, rfl, hat⟩ q1
  · obtain ⟨t, et⟩ := p1.pre
    exact ⟨t ++ [a], by rw [et, List.append_assoc]⟩
  · rcases List.mem_append.mp hb with hb | hb
    · exact p1.nw b hb
    · rw [List.mem_singleton.mp hb]
      exact .inr h0
  · show (r1.st ++ [some ds]).length = (am1 ++ [a]).length
    rw [List.length_append, List.length_append, hl]
    rfl
  · rw [List.nodup_append]
    refine ⟨S1.nd, by simp, fun b hb c hc => ?_⟩
    rw [List.mem_singleton.mp hc]
    intro z
    exact hn (z ▸ hb)
  · rcases List.mem_append.mp hb with hb | hb
    · exact S1.tr b hb
    · rw [List.mem_singleton.mp hb, ha]
      simp
  · have h2' : (r1.st ++ [some ds])[n]? = some (some es) := h2
    by_cases hlt : n < r1.st.length
    · rw [List.getElem?_append_left hlt] at h2'
      rw [List.getElem?_append_left (by rw [hl]; exact hlt)] at h1
      exact S1.live n b es h1 h2'
    · have hn' : n < (r1.st ++ [some ds]).length := (List.getElem?_eq_some_iff.mp h2').1
      rw [List.length_append] at hn'
      have e : n = r1.st.length := by
        have : ([some ds] : Sto).length = 1 := rfl
        omega
      rw [e, List.getElem?_append_right (Nat.le_refl _), Nat.sub_self] at h2'
      have e2 : ds = es := by simpa using h2'
      rw [e, hat] at h1
      have e3 : a = b := Option.some.inj h1
      rw [← e2, ← e3]
      exact ⟨hf, xs, ha, ra⟩
  · obtain ⟨v, g1, g2⟩ := S1.sl i y h1
    refine ⟨v, g1, ?_⟩
    cases y with
    | d z => exact g2
    | l n =>
      obtain ⟨b, e1, e2⟩ := g2
      exact ⟨b, e1, old e2⟩
    | o b => exact g2
theorem se_loc {wl : WL} (h : SL X W e wl) : SE X W e (wLoc wl) := peI h fun _ _ _ => loc_of
/-! ### displays -/
def wTup (ws : WA) : WE := fun r k x => ws r (fun ys r1 => ys.length ≤ sizeLine ∧ frzs ys r1 fun ds r2 => k (.d (.tuple ds)) r2) x
def wLst (ws : WA) : WL := fun r k x => ws r (fun ys r1 => ys.length ≤ sizeLine ∧ frzs ys r1 fun ds r2 => k ds r2) x
theorem pairLen {α β : Type} {F : α → β → Prop} : ∀ {xs : List α} {ys : List β}, Paired F xs ys → xs.length = ys.length
  | _, _, .nil => rfl
  | _, _, .cons _ t => congrArg (· + 1) (pairLen t)
theorem se_tup {x1} (h : SA X W es wr) : SE X W (.Tuple es x1 pos) (wTup wr) := by
  refine peI (pe_tup h) fun s H Q q => ?_
  obtain ⟨am, Hf, r, k, x, S, hw, hk, hx⟩ := q
  refine ⟨am, Hf, r, _, x, S, hw, fun ys r1 am1 Hf1 H1 vs p1 S1 rs q1 => ?_, hx⟩
  obtain ⟨hz, q1⟩ := q1
  obtain ⟨ds, r2, Hf2, p2, S2, ra, q2⟩ := frzs_ok S1 rs q1
  refine ⟨by rw [pairLen rs]; exact hz, fun p hp => ?_⟩
  have g : Grow Hf2 H1 (upd Hf2 p (.tup vs)) (upd H1 p (.tup vs)) := .new S2.le hp
  exact hk (.d (.tuple ds)) r2 am1 _ _ _ ((p1.trans p2).trans g.stp) (S2.grow g) (Rp.tup (Evl.st_of upd_same) (ra.mono g.lf)) q2
theorem sl_lst (h : SA X W es wr) : SL X W (.List es pos) (wLst wr) := by
  refine peI (pe_lst h) fun s H Q q => ?_
  obtain ⟨am, Hf, r, k, x, S, hw, hk, hx⟩ := q
  refine ⟨am, Hf, r, _, x, S, hw, fun ys r1 am1 Hf1 H1 vs p1 S1 rs q1 => ?_, hx⟩
  obtain ⟨hz, q1⟩ := q1
  obtain ⟨ds, r2, Hf2, p2, S2, ra, q2⟩ := frzs_ok S1 rs q1
  refine ⟨by rw [pairLen rs]; exact hz, fun p hp => ?_⟩
  have g : Grow Hf2 H1 Hf2 (upd H1 p (.lst vs)) := .lost S2.le hp
  refine hk ds r2 am1 Hf2 _ p vs ((p1.trans p2).trans g.stp) (S2.grow g) upd_same (Evl.fresh_back S2.le hp) (fun hm => S2.tr p hm hp) ?_ ra q2
  cases z : H p with
  | none => rfl
  | some o => exact absurd hp (p1.kp p (by rw [z]; simp))
end

/-! ### a new list by values -/
abbrev GL2 := D → D → (List D → Prop) → Prop
abbrev GLA := List D → (List D → Prop) → Prop
def FolL (K : PySem.W.Frag) (Hf H : Hp) (k : List D → Prop) (Q : VK) : Prop := ∀ p xs ds Hf' H', Grow Hf H Hf' H' → H' p = none → RpA K Hf' xs ds → k ds → Q (.ref p) (upd H' p (.lst xs))
def OpL2 (X : Cx) (f : Value → Value → Sem Value) (g : GL2) : Prop := ∃ r, OpR X f r ∧ ∀ x y Hf H dx dy k Q, Ex Hf H → RpH X.K Hf H x dx → RpH X.K Hf H y dy → g dx dy k → FolL X.K Hf H k Q → r x y H Q
def OpLC (X : Cx) (f : Value) (g : GLA) : Prop := ∃ r, CallR X f r ∧ ∀ xs Hf H ds k Q, Ex Hf H → RpHs X.K Hf H xs ds → g ds k → FolL X.K Hf H k Q → r xs H Q
theorem folL_of {K : PySem.W.Frag} {Hf H : Hp} {k : D → Prop} {Q : VK} (F : Fol K Hf H k Q) : FolL K Hf H (fun ds => k (.list ds)) Q := fun p xs ds Hf' H' g hp ra q => by
  have g2 : Grow Hf' H' (upd Hf' p (.lst xs)) (upd H' p (.lst xs)) := .new g.ff hp
  exact F _ _ _ _ (g.trans g2) (.lst upd_same (ra.mono g2.lf)) q
theorem OpL2.dat {X : Cx} {f : Value → Value → Sem Value} {g : GL2} (h : OpL2 X f g) : Op2 X f fun x y k => g x y fun ds => k (.list ds) := by
  obtain ⟨r, a, b⟩ := h
  exact ⟨r, a, fun x y Hf H dx dy k Q e rx ry q F => b x y Hf H dx dy _ Q e rx ry q (folL_of F)⟩
theorem OpLC.dat {X : Cx} {f : Value} {g : GLA} (h : OpLC X f g) : OpC X f fun x k => g x fun ds => k (.list ds) := by
  obtain ⟨r, a, b⟩ := h
  exact ⟨r, a, fun xs Hf H ds k Q e rx q F => b xs Hf H ds _ Q e rx q (folL_of F)⟩
section
variable {K : PySem.W.Frag} {mg : Str → Option Value} {am am0 : List Addr} {Hf Hf0 H H0 : Hp} {s : L2.St} {r : Env}
theorem folL_at {k : List D → Env → Prop} {Q : VK} (S : Sim K mg am Hf H s r) (p0 : Stp am0 Hf0 H0 am Hf H)
    (hk : ∀ ds r' am' Hf' H' a xs, Stp am0 Hf0 H0 am' Hf' H' → Sim K mg am' Hf' H' s r' → H' a = some (.lst xs) → Hf' a = none → a ∉ am' → H0 a = none → RpA K Hf' xs ds → k ds r' → Q (.ref a) H') : FolL K Hf H (fun ds => k ds r) Q := fun p xs ds Hf' H' g hp ra q => by
  have S1 := S.grow g
  have g2 : Grow Hf' H' Hf' (upd H' p (.lst xs)) := .lost g.ff hp
  refine hk ds r am Hf' _ p xs ((p0.trans g.stp).trans g2.stp) (S1.grow g2) upd_same (Evl.fresh_back g.ff hp) (fun hm => S1.tr p hm hp) ?_ ra q
  cases z : H0 p with
  | none => rfl
  | some o => exact absurd hp ((p0.trans g.stp).kp p (by rw [z]; simp))
end
def wOpL (g : GL2) (wa wb : WE) : WL := fun r k x => wa r (fun a r1 => wb r1 (fun b r2 => dref a r2 fun da => dref b r2 fun db => g da db fun d => k d r2) x) x
/-- a call of a built-in by its name -/
def wB (g : GA) (ws : WA) : WE := fun r k x => ws r (fun ys r1 => drefs ys r1 fun ds => g ds fun d => k (.d d) r1) x
def wBL (g : GLA) (ws : WA) : WL := fun r k x => ws r (fun ys r1 => drefs ys r1 fun ds => g ds fun d => k d r1) x
section
variable {X : Cx} {W : WX} {pos p : Pos} {a b e : Expr} {es : List Expr} {wa wb : WE} {wr : WA} {id T : String} {n : Str}
theorem sl_op {op : Operator} {g : GL2} (o : OpL2 X (binaryOp op) g) (ha : SE X W a wa) (hb : SE X W b wb) : SL X W (.BinOp a op b pos) (wOpL g wa wb) := by
  obtain ⟨rr, ho, hr⟩ := o
  refine peI (pe_op ho ha hb) fun s H Q h => ?_
  obtain ⟨am, Hf, e, k, x, S, hw, hk, hx⟩ := h
  refine ⟨am, Hf, e, _, x, S, hw, fun ya r1 am1 Hf1 H1 va p1 S1 ra q1 => ?_, hx⟩
  refine ⟨am1, Hf1, r1, _, x, S1, q1, fun yb r2 am2 Hf2 H2 vb p2 S2 rb q2 => ?_, hx.next p1⟩
  obtain ⟨da, rda, q3⟩ := dref_ok S2 (ra.mono p2) q2
  obtain ⟨db, rdb, q4⟩ := dref_ok S2 rb q3
  exact hr _ _ _ _ _ _ _ _ S2.le rda rdb q4 (folL_at S2 (p1.trans p2) hk)
theorem tB_of {rc : List V → Hp → VK → Prop} {g : GA} {s : L2.St} {H : Hp} {Q : VK} (hr : ∀ xs Hf H ds k Q, Ex Hf H → RpHs X.K Hf H xs ds → g ds k → Fol X.K Hf H k Q → rc xs H Q) (h : tE X.K X.mg W (wB g wr) s H Q) : tCB rc (tA X.K X.mg W wr) s H Q := by
  obtain ⟨am, Hf, e, k, x, S, hw, hk, hx⟩ := h
  refine ⟨am, Hf, e, _, x, S, hw, fun ys r1 am1 Hf1 H1 vs p1 S1 rs q1 => ?_, hx⟩
  obtain ⟨ds, rds, q3⟩ := drefs_ok S1 rs q1
  exact hr _ _ _ _ _ _ S1.le rds q3 (fol_of S1 fun y r' am' Hf' H' v p S' rr q => hk y r' am' Hf' H' v (p1.trans p) S' rr q)
theorem tBL_of {rc : List V → Hp → VK → Prop} {g : GLA} {s : L2.St} {H : Hp} {Q : VK} (hr : ∀ xs Hf H ds k Q, Ex Hf H → RpHs X.K Hf H xs ds → g ds k → FolL X.K Hf H k Q → rc xs H Q) (h : tL X.K X.mg W (wBL g wr) s H Q) : tCB rc (tA X.K X.mg W wr) s H Q := by
  obtain ⟨am, Hf, e, k, x, S, hw, hk, hx⟩ := h
  refine ⟨am, Hf, e, _, x, S, hw, fun ys r1 am1 Hf1 H1 vs p1 S1 rs q1 => ?_, hx⟩
  obtain ⟨ds, rds, q3⟩ := drefs_ok S1 rs q1
  exact hr _ _ _ _ _ _ S1.le rds q3 (folL_at S1 p1 hk)
theorem se_blt {g : GA} (hv : bootBuiltins n = some (.builtin id)) (o : OpC X (.builtin id) g) (hm : X.mg n = none) (ha : SA X W (e :: es) wr) (hg : Gl X n := by rfl) (hn : n ≠ "__name__" := by decide) (hdb : (n == ("__debug__" : Str)) = false := by decide)
    (he : starEach (e :: es) X.env = (false, eval e X.env) :: starEach es X.env := by rfl) (hpl : (backTo pos (starEach es X.env)).any (·.1) = false := by rfl) : SE X W (.Call (.Name n p) (e :: es) [] pos) (wB g wr) := by
  obtain ⟨rc, hc, hr⟩ := o
  exact peI (pe_callB hc hg hm hv ha hn hdb he hpl) fun s H Q h => tB_of hr h
theorem sl_blt {g : GLA} (hv : bootBuiltins n = some (.builtin id)) (o : OpLC X (.builtin id) g) (hm : X.mg n = none) (ha : SA X W (e :: es) wr) (hg : Gl X n := by rfl) (hn : n ≠ "__name__" := by decide) (hdb : (n == ("__debug__" : Str)) = false := by decide)
    (he : starEach (e :: es) X.env = (false, eval e X.env) :: starEach es X.env := by rfl) (hpl : (backTo pos (starEach es X.env)).any (·.1) = false := by rfl) : SL X W (.Call (.Name n p) (e :: es) [] pos) (wBL g wr) := by
  obtain ⟨rc, hc, hr⟩ := o
  exact peI (pe_callB hc hg hm hv ha hn hdb he hpl) fun s H Q h => tBL_of hr h
theorem se_bty {g : GA} (hv : bootBuiltins n = some (.type T)) (o : OpC X (.type T) g) (hm : X.mg n = none) (ha : SA X W (e :: es) wr) (hg : Gl X n := by rfl) (hn : n ≠ "__name__" := by decide) (hdb : (n == ("__debug__" : Str)) = false := by decide)
    (he : starEach (e :: es) X.env = (false, eval e X.env) :: starEach es X.env := by rfl) (hpl : (backTo pos (starEach es X.env)).any (·.1) = false := by rfl) : SE X W (.Call (.Name n p) (e :: es) [] pos) (wB g wr) := by
  obtain ⟨rc, hc, hr⟩ := o
  exact peI (pe_callTy hc hg hm hv ha hn hdb he hpl) fun s H Q h => tB_of hr h
theorem sl_bty {g : GLA} (hv : bootBuiltins n = some (.type T)) (o : OpLC X (.type T) g) (hm : X.mg n = none) (ha : SA X W (e :: es) wr) (hg : Gl X n := by rfl) (hn : n ≠ "__name__" := by decide) (hdb : (n == ("__debug__" : Str)) = false := by decide)
    (he : starEach (e :: es) X.env = (false, eval e X.env) :: starEach es X.env := by rfl) (hpl : (backTo pos (starEach es X.env)).any (·.1) = false := by rfl) : SL X W (.Call (.Name n p) (e :: es) [] pos) (wBL g wr) := by
  obtain ⟨rc, hc, hr⟩ := o
  exact peI (pe_callTy hc hg hm hv ha hn hdb he hpl) fun s H Q h => tBL_of hr h
/-! ### subscripts, slices -/
def OpI (X : Cx) (g : G2) : Prop := ∃ r, IxR X r ∧ ∀ x y Hf H dx dy k Q, Ex Hf H → RpH X.K Hf H x dx → RpH X.K Hf H y dy → g dx dy k → Fol X.K Hf H k Q → r x y H Q
theorem se_ix {g : G2} (o : OpI X g) (ha : SE X W a wa) (hb : SE X W b wb) (hs : PlainIx b := by intro _ _; rfl) : SE X W (.Subscript a b pos) (wOp2 g wa wb) := by
  obtain ⟨r, ho, hr⟩ := o
  exact peI (pe_ix ho ha hb hs) fun s H Q h => tOp_of hr h
abbrev WO := Env → (Option Int → Env → Prop) → XQ → Prop
def tO (K : PySem.W.Frag) (mg : Str → Option Value) (W : WX) (w : WO) : TO := fun s H Q => ∃ am Hf r k x, Sim K mg am Hf H s r ∧ w r k x ∧ (∀ o r' am' Hf' H', Stp am Hf H am' Hf' H' → Sim K mg am' Hf' H' s r' → k o r' → Q o H') ∧ XC K mg W x am Hf H s
abbrev SO (X : Cx) (W : WX) (e : Option Expr) (w : WO) : Prop := PO X e (tO X.K X.mg W w)
def wNo : WO := fun r k _ => k none r
def isI (y : R) (k : Int → Prop) : Prop := match y with
  | .d (.int i) => k i
  | _ => False
def wPart (we : WE) : WO := fun r k x => we r (fun y r1 => isI y fun i => k (some i) r1) x
theorem isI_ok {K : PySem.W.Frag} {mg : Str → Option Value} {am : List Addr} {Hf : Hp} {v : V} {y : R} {k : Int → Prop} (r : RelR K mg am Hf v y) (h : isI y k) : ∃ b, v = .int b ∧ k b := by
  cases y with
  | d z =>
    cases z with
    | int b =>
      cases r
      exact ⟨b, rfl, h⟩
    | _ => exact h.elim
  | _ => exact h.elim
theorem so_no : SO X W none wNo := ⟨fun pins s σ H Q I h => by
  obtain ⟨am, Hf, r, k, x, S, hw, hk, hx⟩ := h
  exact po_none.run pins s σ H Q I (hk none r am Hf H .refl S hw)⟩
theorem so_some (h : SE X W e wa) : SO X W (some e) (wPart wa) := ⟨fun pins s σ H Q I q => by
  obtain ⟨am, Hf, r, k, x, S, hw, hk, hx⟩ := q
  refine (po_some h).run pins s σ H Q I ⟨am, Hf, r, _, x, S, hw, fun y r1 am1 Hf1 H1 v p1 S1 rr q1 => ?_, hx⟩
  obtain ⟨i, rfl, q1⟩ := isI_ok rr q1
  exact ⟨i, rfl, hk (some i) r1 am1 Hf1 H1 p1 S1 q1⟩⟩
abbrev GS := D → Option Int → Option Int → (D → Prop) → Prop
abbrev GSL := D → Option Int → Option Int → (List D → Prop) → Prop
def OpS (X : Cx) (g : GS) : Prop := ∃ r, SlR X r ∧ ∀ x lo hi Hf H dx k Q, Ex Hf H → RpH X.K Hf H x dx → g dx lo hi k → Fol X.K Hf H k Q → r x lo hi H Q
def OpSL (X : Cx) (g : GSL) : Prop := ∃ r, SlR X r ∧ ∀ x lo hi Hf H dx k Q, Ex Hf H → RpH X.K Hf H x dx → g dx lo hi k → FolL X.K Hf H k Q → r x lo hi H Q
def wSl (g : GS) (wa : WE) (wl wh : WO) : WE := fun r k x => wa r (fun a r1 => wl r1 (fun lo r2 => wh r2 (fun hi r3 => dref a r3 fun da => g da lo hi fun d => k (.d d) r3) x) x) x
def wSlL (g : GSL) (wa : WE) (wl wh : WO) : WL := fun r k x => wa r (fun a r1 => wl r1 (fun lo r2 => wh r2 (fun hi r3 => dref a r3 fun da => g da lo hi fun d => k d r3) x) x) x
variable {lo hi : Option Expr} {wl wh : WO} {p2 : Pos}
theorem se_sl {g : GS} (o : OpS X g) (ha : SE X W a wa) (hl : SO X W lo wl) (hh : SO X W hi wh) : SE X W (.Subscript a (.Slice lo hi none p2) pos) (wSl g wa wl wh) := by
  obtain ⟨rr, ho, hr⟩ := o
  refine peI (pe_slice ho ha hl hh) fun s H Q h => ?_
  obtain ⟨am, Hf, e, k, x, S, hw, hk, hx⟩ := h
  refine ⟨am, Hf, e, _, x, S, hw, fun ya r1 am1 Hf1 H1 va p1 S1 ra q1 => ?_, hx⟩
  refine ⟨am1, Hf1, r1, _, x, S1, q1, fun o2 r2 am2 Hf2 H2 p2 S2 q2 => ?_, hx.next p1⟩
  refine ⟨am2, Hf2, r2, _, x, S2, q2, fun o3 r3 am3 Hf3 H3 p3 S3 q3 => ?_, hx.next (p1.trans p2)⟩
  obtain ⟨da, rda, q4⟩ := dref_ok S3 ((ra.mono p2).mono p3) q3
  exact hr _ _ _ _ _ _ _ _ S3.le rda q4 (fol_of S3 fun y r' am' Hf' H' v p S' rr q => hk y r' am' Hf' H' v (((p1.trans p2).trans p3).trans p) S' rr q)
theorem sl_sl {g : GSL} (o : OpSL X g) (ha : SE X W a wa) (hl : SO X W lo wl) (hh : SO X W hi wh) : SL X W (.Subscript a (.Slice lo hi none p2) pos) (wSlL g wa wl wh) := by
  obtain ⟨rr, ho, hr⟩ := o
  refine peI (pe_slice ho ha hl hh) fun s H Q h => ?_
  obtain ⟨am, Hf, e, k, x, S, hw, hk, hx⟩ := h
  refine ⟨am, Hf, e, _, x, S, hw, fun ya r1 am1 Hf1 H1 va p1 S1 ra q1 => ?_, hx⟩
  refine ⟨am1, Hf1, r1, _, x, S1, q1, fun o2 r2 am2 Hf2 H2 p2 S2 q2 => ?_, hx.next p1⟩
  refine ⟨am2, Hf2, r2, _, x, S2, q2, fun o3 r3 am3 Hf3 H3 p3 S3 q3 => ?_, hx.next (p1.trans p2)⟩
  obtain ⟨da, rda, q4⟩ := dref_ok S3 ((ra.mono p2).mono p3) q3
  exact hr _ _ _ _ _ _ _ _ S3.le rda q4 (folL_at S3 ((p1.trans p2).trans p3) hk)
theorem OpSL.dat {g : GSL} (h : OpSL X g) : OpS X fun x lo hi k => g x lo hi fun ds => k (.list ds) := by
  obtain ⟨r, a, b⟩ := h
  exact ⟨r, a, fun x lo hi Hf H dx k Q e rx q F => b x lo hi Hf H dx _ Q e rx q (folL_of F)⟩
theorem OpS.or {g g' : GS} (h : OpS X g) (h' : OpS X g') : OpS X fun x lo hi k => g x lo hi k ∨ g' x lo hi k := by
  obtain ⟨r, a, b⟩ := h
  obtain ⟨r', a', b'⟩ := h'
  exact ⟨_, a.or a', fun x lo hi Hf H dx k Q e rx q F => q.elim (fun q => .inl (b x lo hi Hf H dx k Q e rx q F)) fun q => .inr (b' x lo hi Hf H dx k Q e rx q F)⟩
theorem OpS.imp {g g' : GS} (h : OpS X g) (i : ∀ x lo hi k, g' x lo hi k → g x lo hi k) : OpS X g' := by
  obtain ⟨r, a, b⟩ := h
  exact ⟨r, a, fun x lo hi Hf H dx k Q e rx q F => b x lo hi Hf H dx k Q e rx (i _ _ _ _ q) F⟩
theorem OpI.or {g g' : G2} (h : OpI X g) (h' : OpI X g') : OpI X (g.or g') := by
  obtain ⟨r, a, b⟩ := h
  obtain ⟨r', a', b'⟩ := h'
  exact ⟨_, a.or a', fun x y Hf H dx dy k Q e rx ry q F => q.elim (fun q => .inl (b x y Hf H dx dy k Q e rx ry q F)) fun q => .inr (b' x y Hf H dx dy k Q e rx ry q F)⟩
theorem OpI.imp {g g' : G2} (h : OpI X g) (i : ∀ x y k, g' x y k → g x y k) : OpI X g' := by
  obtain ⟨r, a, b⟩ := h
  exact ⟨r, a, fun x y Hf H dx dy k Q e rx ry q F => b x y Hf H dx dy k Q e rx ry (i _ _ _ q) F⟩
end
end Dl

/-! the data layer, part 4: methods, statements, loops, comprehensions -/
namespace Dl
open PySem
open PySem.Spec
open PyProof.Rows
open L2
open Evl (Ex)

/-! ### methods that change nothing -/
abbrev GM := D → List D → (D → Prop) → Prop
abbrev GML := D → List D → (List D → Prop) → Prop
def OpM (X : Cx) (id : String) (g : GM) : Prop := ∃ r, MtR X id r ∧ ∀ x xs Hf H dx ds k Q, Ex Hf H → RpH X.K Hf H x dx → RpHs X.K Hf H xs ds → g dx ds k → Fol X.K Hf H k Q → r x xs H Q
def OpML (X : Cx) (id : String) (g : GML) : Prop := ∃ r, MtR X id r ∧ ∀ x xs Hf H dx ds k Q, Ex Hf H → RpH X.K Hf H x dx → RpHs X.K Hf H xs ds → g dx ds k → FolL X.K Hf H k Q → r x xs H Q
def tyD (T : String) (d : D) : Prop := match d with
  | .str _ => T = "str"
  | .list _ => T = "list"
  | _ => False
theorem tyD_ok {K : PySem.W.Frag} {Hf H : Hp} {v : V} {d : D} {T : String} (e : Ex Hf H) (r : RpH K Hf H v d) (h : tyD T d) : tyV K T v H := by
  cases d with
  | str s =>
    rw [r.str]
    exact h
  | list ds =>
    obtain ⟨a, xs, rfl, h1, h2⟩ := r.list e
    exact .inl ⟨h, xs, Evl.sq_of h1⟩
  | _ => exact h.elim
def wM (T : String) (g : GM) (wa : WE) (ws : WA) : WE := fun r k x => wa r (fun a r1 => dref a r1 fun da => tyD T da ∧ ws r1 (fun ys r2 => dref a r2 fun da => drefs ys r2 fun ds => g da ds fun d => k (.d d) r2) x) x
def wML (T : String) (g : GML) (wa : WE) (ws : WA) : WL := fun r k x => wa r (fun a r1 => dref a r1 fun da => tyD T da ∧ ws r1 (fun ys r2 => dref a r2 fun da => drefs ys r2 fun ds => g da ds fun d => k d r2) x) x
def wM0 (T : String) (g : GM) (wa : WE) : WE := fun r k x => wa r (fun a r1 => dref a r1 fun da => tyD T da ∧ g da [] fun d => k (.d d) r1) x
section
variable {X : Cx} {W : WX} {pos apos cpos p : Pos} {o a b e : Expr} {es : List Expr} {wa wb we : WE} {wr : WA} {id T : String} {n name : Str}
theorem se_m {g : GM} (pa : PlainAttrs T) (slot : Slot T name id) (hty : typeOf (.builtin id) = pure (.type "method_descriptor")) (op : OpM X id g) (ho : SE X W o wa) (ha : SA X W (e :: es) wr)
    (hbase : attributeBase o name X.env (eval o X.env) = eval o X.env := by rfl)
    (hfew : ((backTo cpos (starEach (e :: es) X.env)).all (fun x => !x.1) && (backToKw cpos (keywordEach [] X.env)).all (fun x => x.1.isSome)
      && decide ((e :: es).length + ([] : List Keyword).length + (if ([] : List Keyword).isEmpty then 0 else 1) < 30)) = true := by rfl)
    (hline : (apos.endLine == cpos.line) = true := by rfl) (hs : starEach (e :: es) X.env = (false, eval e X.env) :: starEach es X.env := by rfl) (hplain : (backTo cpos (starEach es X.env)).any (·.1) = false := by rfl) :
    SE X W (.Call (.Attribute o name apos) (e :: es) [] cpos) (wM T g wa wr) := by
  obtain ⟨rm, hm, hr⟩ := op
  refine peI (pe_bm pa slot hty hm ho ha hbase hfew hline hs hplain) fun s H Q h => ?_
  obtain ⟨am, Hf, r, k, x, S, hw, hk, hx⟩ := h
  refine ⟨am, Hf, r, _, x, S, hw, fun y r1 am1 Hf1 H1 v p1 S1 rr q => ?_, hx⟩
  obtain ⟨d, rd, q1, q2⟩ := dref_ok S1 rr q
  refine ⟨tyD_ok S1.le rd q1, am1, Hf1, r1, _, x, S1, q2, fun ys r2 am2 Hf2 H2 vs p2 S2 rs q3 => ?_, hx.next p1⟩
  obtain ⟨d2, rd2, q4⟩ := dref_ok S2 (rr.mono p2) q3
  obtain ⟨ds, rds, q5⟩ := drefs_ok S2 rs q4
  exact hr _ _ _ _ _ _ _ _ S2.le rd2 rds q5 (fol_of S2 fun y r' am' Hf' H' v p S' rr q => hk y r' am' Hf' H' v ((p1.trans p2).trans p) S' rr q)
theorem sl_m {g : GML} (pa : PlainAttrs T) (slot : Slot T name id) (hty : typeOf (.builtin id) = pure (.type "method_descriptor")) (op : OpML X id g) (ho : SE X W o wa) (ha : SA X W (e :: es) wr)
    (hbase : attributeBase o name X.env (eval o X.env) = eval o X.env := by rfl)
    (hfew : ((backTo cpos (starEach (e :: es) X.env)).all (fun x => !x.1) && (backToKw cpos (keywordEach [] X.env)).all (fun x => x.1.isSome)
      && decide ((e :: es).length + ([] : List Keyword).length + (if ([] : List Keyword).isEmpty then 0 else 1) < 30)) = true := by rfl)
    (hline : (apos.endLine == cpos.line) = true := by rfl) (hs : starEach (e :: es) X.env = (false, eval e X.env) :: starEach es X.env := by rfl) (hplain : (backTo cpos (starEach es X.env)).any (·.1) = false := by rfl) :
    SL X W (.Call (.Attribute o name apos) (e :: es) [] cpos) (wML T g wa wr) := by
  obtain ⟨rm, hm, hr⟩ := op
  refine peI (pe_bm pa slot hty hm ho ha hbase hfew hline hs hplain) fun s H Q h => ?_
  obtain ⟨am, Hf, r, k, x, S, hw, hk, hx⟩ := h
  refine ⟨am, Hf, r, _, x, S, hw, fun y r1 am1 Hf1 H1 v p1 S1 rr q => ?_, hx⟩
  obtain ⟨d, rd, q1, q2⟩ := dref_ok S1 rr q
  refine ⟨tyD_ok S1.le rd q1, am1, Hf1, r1, _, x, S1, q2, fun ys r2 am2 Hf2 H2 vs p2 S2 rs q3 => ?_, hx.next p1⟩
  obtain ⟨d2, rd2, q4⟩ := dref_ok S2 (rr.mono p2) q3
  obtain ⟨ds, rds, q5⟩ := drefs_ok S2 rs q4
  exact hr _ _ _ _ _ _ _ _ S2.le rd2 rds q5 (folL_at S2 (p1.trans p2) hk)
theorem se_m0 {g : GM} (pa : PlainAttrs T) (slot : Slot T name id) (hty : typeOf (.builtin id) = pure (.type "method_descriptor")) (op : OpM X id g) (ho : SE X W o wa)
    (hbase : attributeBase o name X.env (eval o X.env) = eval o X.env := by rfl) (hline : (apos.endLine == cpos.line) = true := by rfl) : SE X W (.Call (.Attribute o name apos) [] [] cpos) (wM0 T g wa) := by
  obtain ⟨rm, hm, hr⟩ := op
  refine peI (pe_bm0 pa slot hty hm ho hbase hline) fun s H Q h => ?_
  obtain ⟨am, Hf, r, k, x, S, hw, hk, hx⟩ := h
  refine ⟨am, Hf, r, _, x, S, hw, fun y r1 am1 Hf1 H1 v p1 S1 rr q => ?_, hx⟩
  obtain ⟨d, rd, q1, q2⟩ := dref_ok S1 rr q
  exact ⟨tyD_ok S1.le rd q1, hr _ _ _ _ _ _ _ _ S1.le rd .nil q2 (fol_of S1 fun y r' am' Hf' H' v p S' rr q => hk y r' am' Hf' H' v (p1.trans p) S' rr q)⟩
/-! ### methods that change a list of the store: the list, the arguments (frozen): the answer, the new list -/
abbrev GU := List D → List D → (D → List D → Prop) → Prop
def OpU (X : Cx) (id : String) (g : GU) : Prop := ∃ r, MtR X id r ∧ ∀ (a : Addr) (cur : List V) (xs : List V) Hf H dc ds k Q, Ex Hf H → H a = some (.lst cur) → RpA X.K Hf cur dc → RpA X.K Hf xs ds → g dc ds k →
  (∀ v d cur' dc', Rp X.K Hf v d → RpA X.K Hf cur' dc' → k d dc' → Q v (upd H a (.lst cur'))) → r (.ref a) xs H Q
def stPut (r : Env) (n : Nat) (ds : List D) : Env := ⟨r.sl, r.st.set n (some ds)⟩
def isL (y : R) (k : Nat → Prop) : Prop := match y with
  | .l n => k n
  | _ => False
def wU (g : GU) (wa : WE) (ws : WA) : WE := fun r k x => wa r (fun a r1 => isL a fun n => lstAt r1 n fun _ => ws r1 (fun ys r2 => frzs ys r2 fun ds r3 => lstAt r3 n fun cur => g cur ds fun d new => k (.d d) (stPut r3 n new)) x) x
def wU0 (g : GU) (wa : WE) : WE := fun r k x => wa r (fun a r1 => isL a fun n => lstAt r1 n fun cur => g cur [] fun d new => k (.d d) (stPut r1 n new)) x
end
section
variable {K : PySem.W.Frag} {mg : Str → Option Value} {am : List Addr} {Hf H : Hp} {s : L2.St} {r : Env} {n : Nat}
theorem lstAt_ok {k : List D → Prop} (h : lstAt r n k) : ∃ ds, r.st[n]? = some (some ds) ∧ k ds := by
  unfold lstAt at h
  cases e : r.st[n]? with
  | none => simp [e] at h
  | some o =>
    cases o with
    | none => simp [e] at h
    | some ds =>
      simp only [e] at h
      exact ⟨ds, rfl, h⟩
/-- a list of the store is written -/
theorem Sim.put (S : Sim K mg am Hf H s r) {a : Addr} {ds dc : List D} {xs : List V} (ha : am[n]? = some a) (hd : r.st[n]? = some (some ds)) (ra : RpA K Hf xs dc) :
    Stp am Hf H am Hf (upd H a (.lst xs)) ∧ Sim K mg am Hf (upd H a (.lst xs)) s (stPut r n dc) := by
  obtain ⟨h0, ys, h1, _⟩ := S.live n a ds ha hd
  refine ⟨⟨⟨[], by simp⟩, fun _ h => .inl h, Evl.Ex.refl _, fun b o h hn => ?_, fun _ _ h => .inl h, fun b h => ?_⟩, fun b o h => ?_, ?_, S.nd, fun b hb => ?_, fun m b es g1 g2 => ?_, S.sl, S.sz⟩
  · have hb : b ≠ a := fun z => hn (z ▸ List.mem_of_getElem? ha)
    rw [upd_ne hb]
    exact h
  · by_cases hb : b = a
    · rw [hb, upd_same]
      simp
    · rw [upd_ne hb]
      exact h
  · have hb : b ≠ a := fun z => by
      rw [z, h0] at h
      cases h
    rw [upd_ne hb]
    exact S.le b o h
  · show (r.st.set n (some dc)).length = am.length
    rw [List.length_set]
    exact S.len
  · by_cases hba : b = a
    · rw [hba, upd_same]
      simp
    · rw [upd_ne hba]
      exact S.tr b hb
  · have g2' : (r.st.set n (some dc))[m]? = some (some es) := g2
    by_cases hm : m = n
    · rw [hm, List.getElem?_set_self (List.getElem?_eq_some_iff.mp hd).1] at g2'
      have e1 : dc = es := by simpa using g2'
      rw [hm, ha] at g1
      have e2 : a = b := Option.some.inj g1
      rw [← e1, ← e2]
      exact ⟨h0, xs, upd_same, ra⟩
    · rw [List.getElem?_set_ne (Ne.symm hm)] at g2'
      obtain ⟨f0, ys, f1, f2⟩ := S.live m b es g1 g2'
      have hba : b ≠ a := fun z => hm (by
        rw [z] at g1
        exact nd_ix S.nd g1 ha)
      exact ⟨f0, ys, by rw [upd_ne hba]; exact f1, f2⟩
end
section
variable {X : Cx} {W : WX} {pos apos cpos p : Pos} {o a b e : Expr} {es : List Expr} {wa wb we : WE} {wr : WA} {id T : String} {n name : Str}
theorem isL_ok {K : PySem.W.Frag} {mg : Str → Option Value} {am : List Addr} {Hf : Hp} {v : V} {y : R} {k : Nat → Prop} (r : RelR K mg am Hf v y) (h : isL y k) : ∃ n a, v = .ref a ∧ am[n]? = some a ∧ k n := by
  cases y with
  | l n =>
    obtain ⟨a, h1, h2⟩ := r
    exact ⟨n, a, h1, h2, h⟩
  | _ => exact h.elim
theorem se_u {g : GU} (slot : Slot "list" name id) (hty : typeOf (.builtin id) = pure (.type "method_descriptor")) (op : OpU X id g) (ho : SE X W o wa) (ha : SA X W (e :: es) wr)
    (hbase : attributeBase o name X.env (eval o X.env) = eval o X.env := by rfl)
    (hfew : ((backTo cpos (starEach (e :: es) X.env)).all (fun x => !x.1) && (backToKw cpos (keywordEach [] X.env)).all (fun x => x.1.isSome)
      && decide ((e :: es).length + ([] : List Keyword).length + (if ([] : List Keyword).isEmpty then 0 else 1) < 30)) = true := by rfl)
    (hline : (apos.endLine == cpos.line) = true := by rfl) (hs : starEach (e :: es) X.env = (false, eval e X.env) :: starEach es X.env := by rfl) (hplain : (backTo cpos (starEach es X.env)).any (·.1) = false := by rfl) :
    SE X W (.Call (.Attribute o name apos) (e :: es) [] cpos) (wU g wa wr) := by
  obtain ⟨rm, hm, hr⟩ := op
  refine peI (pe_bm PySem.F.plainAttrs_list slot hty hm ho ha hbase hfew hline hs hplain) fun s H Q h => ?_
  obtain ⟨am, Hf, r, k, x, S, hw, hk, hx⟩ := h
  refine ⟨am, Hf, r, _, x, S, hw, fun y r1 am1 Hf1 H1 v p1 S1 rr q => ?_, hx⟩
  obtain ⟨n, ad, rfl, had, q⟩ := isL_ok rr q
  obtain ⟨d0, e0, q⟩ := lstAt_ok q
  obtain ⟨_, xs0, h0, _⟩ := S1.live n ad d0 had e0
  refine ⟨.inl ⟨rfl, xs0, Evl.sq_of h0⟩, am1, Hf1, r1, _, x, S1, q, fun ys r2 am2 Hf2 H2 vs p2 S2 rs q3 => ?_, hx.next p1⟩
  obtain ⟨ds, r3, Hf3, p3, S3, ra, q4⟩ := frzs_ok S2 rs q3
  obtain ⟨cur, e1, q5⟩ := lstAt_ok q4
  have had2 := p2.at had
  obtain ⟨_, xs1, h1, h2⟩ := S3.live n ad cur had2 e1
  refine hr ad xs1 vs Hf3 H2 cur ds _ Q S3.le h1 h2 ra q5 fun v d cur' dc' rv rc kk => ?_
  obtain ⟨p4, S4⟩ := S3.put had2 e1 rc
  exact hk (.d d) _ am2 Hf3 _ v (((p1.trans p2).trans p3).trans p4) S4 rv kk
theorem se_u0 {g : GU} (slot : Slot "list" name id) (hty : typeOf (.builtin id) = pure (.type "method_descriptor")) (op : OpU X id g) (ho : SE X W o wa)
    (hbase : attributeBase o name X.env (eval o X.env) = eval o X.env := by rfl) (hline : (apos.endLine == cpos.line) = true := by rfl) : SE X W (.Call (.Attribute o name apos) [] [] cpos) (wU0 g wa) := by
  obtain ⟨rm, hm, hr⟩ := op
  refine peI (pe_bm0 PySem.F.plainAttrs_list slot hty hm ho hbase hline) fun s H Q h => ?_
  obtain ⟨am, Hf, r, k, x, S, hw, hk, hx⟩ := h
  refine ⟨am, Hf, r, _, x, S, hw, fun y r1 am1 Hf1 H1 v p1 S1 rr q => ?_, hx⟩
  obtain ⟨n, ad, rfl, had, q⟩ := isL_ok rr q
  obtain ⟨cur, e1, q⟩ := lstAt_ok q
  obtain ⟨_, xs1, h1, h2⟩ := S1.live n ad cur had e1
  refine ⟨.inl ⟨rfl, xs1, Evl.sq_of h1⟩, hr ad xs1 [] Hf1 H1 cur [] _ Q S1.le h1 h2 .nil q fun v d cur' dc' rv rc kk => ?_⟩
  obtain ⟨p4, S4⟩ := S1.put had e1 rc
  exact hk (.d d) _ am1 Hf1 _ v (p1.trans p4) S4 rv kk
/-! ### the script: its length, an item -/
def isScr (y : R) (k : List Int → Prop) : Prop := match y with
  | .o (.scr ns) => k ns
  | _ => False
theorem isScr_ok {K : PySem.W.Frag} {mg : Str → Option Value} {am : List Addr} {Hf : Hp} {v : V} {y : R} {k : List Int → Prop} (r : RelR K mg am Hf v y) (h : isScr y k) : ∃ ns a, v = .ref a ∧ SqL K Hf a (ns.map V.int) ∧ k ns := by
  cases y with
  | o b =>
    cases b with
    | scr ns =>
      obtain ⟨a, h1, h2⟩ := r
      exact ⟨ns, a, h1, h2, h⟩
    | _ => exact h.elim
  | _ => exact h.elim
def wScrLen (we : WE) : WE := fun r k x => we r (fun y r1 => isScr y fun ns => k (.d (.int ns.length)) r1) x
theorem se_scrLen (hm : X.mg "len" = none) (h : SE X W e we) (hg : Gl X "len" := by rfl) (he : starEach (e :: []) X.env = (false, eval e X.env) :: starEach [] X.env := by rfl) (hpl : (backTo pos (starEach [] X.env)).any (·.1) = false := by rfl) :
    SE X W (.Call (.Name "len" p) [e] [] pos) (wScrLen we) := by
  refine peI (pe_callB call_len_seq hg hm PySem.boot_len (pa_cons h pa_nil he) (by decide) (by decide) he hpl) fun s H Q h => ?_
  obtain ⟨am, Hf, r, k, x, S, hw, hk, hx⟩ := h
  refine ⟨am, Hf, r, _, x, S, hw, fun y r1 am1 Hf1 H1 v p1 S1 rr q => ?_, hx⟩
  obtain ⟨ns, a, rfl, hs, q⟩ := isScr_ok rr q
  refine ⟨a, ns.map V.int, rfl, .inl (Evl.ex_l S1.le hs), ?_⟩
  rw [List.length_map]
  exact hk (.d (.int ns.length)) r1 am1 Hf1 H1 _ p1 S1 (Rp.int _) q
def wScrAt (wa wb : WE) : WE := fun r k x => wa r (fun y r1 => wb r1 (fun z r2 => isScr y fun ns => isI z fun i => match atI ns i with
  | some n => k (.d (.int n)) r2
  | none => False) x) x
theorem atI_map {α β : Type} {f : α → β} {xs : List α} {i : Int} : atI (xs.map f) i = (atI xs i).map f := by
  unfold atI
  rw [List.length_map]
  cases ixN xs.length i with
  | none => rfl
  | some j =>
    show (xs.map f)[j]? = (xs[j]?).map f
    rw [List.getElem?_map]
theorem se_scrAt (ha : SE X W a wa) (hb : SE X W b wb) (hs : PlainIx b := by intro _ _; rfl) : SE X W (.Subscript a b pos) (wScrAt wa wb) := by
  refine peI (pe_ix ix_list ha hb hs) fun s H Q h => ?_
  obtain ⟨am, Hf, r, k, x, S, hw, hk, hx⟩ := h
  refine ⟨am, Hf, r, _, x, S, hw, fun y r1 am1 Hf1 H1 v p1 S1 rr q => ?_, hx⟩
  refine ⟨am1, Hf1, r1, _, x, S1, q, fun z r2 am2 Hf2 H2 w p2 S2 rr2 q2 => ?_, hx.next p1⟩
  obtain ⟨ns, a, rfl, hs, q3⟩ := isScr_ok (rr.mono p2) q2
  obtain ⟨i, rfl, q4⟩ := isI_ok rr2 q3
  cases ea : atI ns i with
  | none =>
    rw [ea] at q4
    exact q4.elim
  | some n =>
    rw [ea] at q4
    exact ⟨a, ns.map V.int, i, .int n, rfl, rfl, Evl.ex_l S2.le hs, by rw [atI_map, ea]; rfl, hk (.d (.int n)) r2 am2 Hf2 H2 _ (p1.trans p2) S2 (Rp.int _) q4⟩
end

/-! ### statements -/
def wNext : WS := fun r p => p.nx r
def wSeq (a b : WS) : WS := fun r p => a r { p with nx := fun r1 => b r1 p }
def wDrop (w : WE) : WS := fun r p => w r (fun _ r1 => p.nx r1) p.ex
def wRet (w : WE) : WS := fun r p => w r p.rt p.ex
def wRetN : WS := fun r p => p.rt (.d .none) r
def wBrk : WS := fun r p => p.bk r
def wCnt : WS := fun r p => p.ct r
def wIfS (t : WT) (a b : WS) : WS := fun r p => t r (fun c r1 => match c with
  | true => a r1 p
  | false => b r1 p) p.ex
def wSet (i : Nat) (w : WE) : WS := fun r p => w r (fun y r1 => p.nx (r1.put i y)) p.ex
section
variable {K : PySem.W.Frag} {mg : Str → Option Value} {am : List Addr} {Hf H : Hp} {s : L2.St} {r : Env} {v : V} {y : R}
theorem Sim.set (S : Sim K mg am Hf H s r) (i : Nat) (h : RelR K mg am Hf v y) : Sim K mg am Hf H (s.set i (some v)) (r.put i y) := by
  refine ⟨S.le, S.len, S.nd, S.tr, S.live, fun j x hx => ?_, ?_⟩
  · have hx' : (r.sl.set i (some y))[j]? = some (some x) := hx
    by_cases hj : j = i
    · have hl : i < r.sl.length := by
        have := (List.getElem?_eq_some_iff.mp hx').1
        rw [List.length_set] at this
        rw [← hj]
        exact this
      rw [hj, List.getElem?_set_self hl] at hx'
      have e : y = x := by simpa using hx'
      rw [← e]
      exact ⟨v, by rw [hj, List.getElem?_set_self (by rw [← S.sz]; exact hl)], h⟩
    · rw [List.getElem?_set_ne (Ne.symm hj)] at hx'
      obtain ⟨w, h1, h2⟩ := S.sl j x hx'
      exact ⟨w, by rw [List.getElem?_set_ne (Ne.symm hj)]; exact h1, h2⟩
  · show (r.sl.set i (some y)).length = (s.set i (some v)).length
    rw [List.length_set, List.length_set]
    exact S.sz
end
section
variable {X : Cx} {W : WX} {pos : Pos} {e c : Expr} {st : Stmt} {sts rest : List Stmt} {we : WE} {wt : WT} {ws wu : WS}
theorem sb_nil : SB X W [] wNext := by
  refine pssI pss_nil fun Z s H h => ?_
  obtain ⟨am, Hf, r, p, S, hw, h1, _⟩ := h
  exact h1 r am Hf H s .refl S hw
theorem sb_one (h : SS X W st ws) : SB X W [st] ws := pss_one h
theorem sb_cons (h1 : SS X W st ws) (h2 : SB X W rest wu) : SB X W (st :: rest) (wSeq ws wu) := by
  refine pssI (pss_cons h1 h2) fun Z s H h => ?_
  obtain ⟨am, Hf, r, p, S, hw, g1, g2, g3, g4, g5⟩ := h
  refine ⟨am, Hf, r, _, S, hw, fun r1 am1 Hf1 H1 s1 p1 S1 q => ?_, g2, g3, g4, g5⟩
  exact ⟨am1, Hf1, r1, p, S1, q, fun r' am' Hf' H' s' p' S' q => g1 r' am' Hf' H' s' (p1.trans p') S' q, fun y r' am' Hf' H' s' v p' S' rr q => g2 y r' am' Hf' H' s' v (p1.trans p') S' rr q,
    fun r' am' Hf' H' s' p' S' q => g3 r' am' Hf' H' s' (p1.trans p') S' q, fun r' am' Hf' H' s' p' S' q => g4 r' am' Hf' H' s' (p1.trans p') S' q, g5.next p1⟩
theorem ss_pass : SS X W (.Pass pos) wNext := by
  refine psI ps_pass fun Z s H h => ?_
  obtain ⟨am, Hf, r, p, S, hw, h1, _⟩ := h
  exact h1 r am Hf H s .refl S hw
theorem ss_brk : SS X W (.Break pos) wBrk := by
  refine psI ps_break fun Z s H h => ?_
  obtain ⟨am, Hf, r, p, S, hw, _, _, h1, _⟩ := h
  exact h1 r am Hf H s .refl S hw
theorem ss_cnt : SS X W (.Continue pos) wCnt := by
  refine psI ps_continue fun Z s H h => ?_
  obtain ⟨am, Hf, r, p, S, hw, _, _, _, h1, _⟩ := h
  exact h1 r am Hf H s .refl S hw
theorem ss_expr (he : SE X W e we) (hs : swapsWith e none pos.line X.env = pure false := by rfl) : SS X W (.Expr e pos) (wDrop we) := by
  refine psI (ps_expr he hs) fun Z s H h => ?_
  obtain ⟨am, Hf, r, p, S, hw, g1, g2, g3, g4, g5⟩ := h
  exact ⟨am, Hf, r, _, p.ex, S, hw, fun y r1 am1 Hf1 H1 v p1 S1 rr q => g1 r1 am1 Hf1 H1 s p1 S1 q, g5.at⟩
theorem ss_ret (he : SE X W e we) : SS X W (.Return (some e) pos) (wRet we) := by
  refine psI (ps_ret he) fun Z s H h => ?_
  obtain ⟨am, Hf, r, p, S, hw, g1, g2, g3, g4, g5⟩ := h
  exact ⟨am, Hf, r, _, p.ex, S, hw, fun y r1 am1 Hf1 H1 v p1 S1 rr q => g2 y r1 am1 Hf1 H1 s v p1 S1 rr q, g5.at⟩
theorem ss_retN : SS X W (.Return none pos) wRetN := by
  refine psI ps_retN fun Z s H h => ?_
  obtain ⟨am, Hf, r, p, S, hw, g1, g2, g3, g4, g5⟩ := h
  exact g2 (.d .none) r am Hf H s .non .refl S Rp.non hw
theorem ss_if (hc : ST X W c wt) (ha : SB X W sts ws) (hb : SB X W rest wu) : SS X W (.If c sts rest pos) (wIfS wt ws wu) := by
  refine psI (ps_if hc ha hb) fun Z s H h => ?_
  obtain ⟨am, Hf, r, p, S, hw, g1, g2, g3, g4, g5⟩ := h
  refine ⟨am, Hf, r, _, p.ex, S, hw, fun b r1 am1 Hf1 H1 p1 S1 q => ?_, g5.at⟩
  have go : ∀ {w : WS}, w r1 p → tS X.K X.mg W w Z s H1 := fun {w} q => ⟨am1, Hf1, r1, p, S1, q, fun r' am' Hf' H' s' p' S' q => g1 r' am' Hf' H' s' (p1.trans p') S' q, fun y r' am' Hf' H' s' v p' S' rr q => g2 y r' am' Hf' H' s' v (p1.trans p') S' rr q,
    fun r' am' Hf' H' s' p' S' q => g3 r' am' Hf' H' s' (p1.trans p') S' q, fun r' am' Hf' H' s' p' S' q => g4 r' am' Hf' H' s' (p1.trans p') S' q, g5.next p1⟩
  cases b with
  | true => exact go q
  | false => exact go q
theorem ss_set (i : Nat) {x : Str} {pos' : Pos} (he : SE X W e we) (hN : X.N.Nodup) (hi : X.N[i]? = some x := by rfl) (hx : Loc X.env.scope x := by first | exact Or.inl rfl | exact Or.inr rfl) (hs : swapsWith e (some (.Name x pos')) pos.line X.env = pure false := by rfl)
    (hf : X.fn x = true ∨ X.env.scope.names.lookup x = some .local := by first | exact .inl rfl | exact .inr rfl | assumption) : SS X W (.Assign [.Name x pos'] e pos) (wSet i we) := by
  refine psI (ps_set hN hi hx he hs hf) fun Z s H h => ?_
  obtain ⟨am, Hf, r, p, S, hw, g1, g2, g3, g4, g5⟩ := h
  exact ⟨am, Hf, r, _, p.ex, S, hw, fun y r1 am1 Hf1 H1 v p1 S1 rr q => g1 _ am1 Hf1 H1 _ p1 (S1.set i rr) q, g5.at⟩
/-- several names at once: the values, then the stores -/
def putMany : List Nat → List R → Env → (Env → Prop) → Prop
  | [], [], r, k => k r
  | i :: is, y :: ys, r, k => putMany is ys (r.put i y) k
  | _, _, _, _ => False
def wPar (is : List Nat) (ws : WA) : WS := fun r p => ws r (fun ys r1 => putMany is ys r1 p.nx) p.ex
def setsV : List Nat → List V → L2.St → L2.St
  | i :: is, v :: vs, s => setsV is vs (s.set i (some v))
  | _, _, s => s
theorem putMany_ok {K : PySem.W.Frag} {mg : Str → Option Value} {am : List Addr} {Hf H : Hp} : ∀ {is : List Nat} {ys : List R} {vs : List V} {s : L2.St} {r : Env} {k : Env → Prop}, Sim K mg am Hf H s r → Paired (RelR K mg am Hf) vs ys → putMany is ys r k →
    ∃ r', Sim K mg am Hf H (setsV is vs s) r' ∧ is.length = vs.length ∧ k r'
  | [], _, _, _, r, _, S, .nil, q => ⟨r, S, rfl, q⟩
  | [], _, _, _, _, _, _, .cons _ _, q => q.elim
  | _ :: _, _, _, _, _, _, _, .nil, q => q.elim
  | i :: is, _, _, _, r, k, S, .cons h t, q => by
    obtain ⟨r', h1, h2, h3⟩ := putMany_ok (is := is) (S.set i h) t q
    exact ⟨r', h1, congrArg (· + 1) h2, h3⟩
theorem ss_par2 (i j : Nat) {x y : Str} {a b : Expr} {wr : WA} {px py pt : Pos} {kt k2 pt2} (ha : SA X W [a, b] wr) (hc : X.calm = true) (hN : X.N.Nodup) (hi : X.N[i]? = some x := by rfl) (hj : X.N[j]? = some y := by rfl) (hij : i ≠ j := by decide)
    (hx : X.env.scope.names.lookup x = some .local := by rfl) (hy : X.env.scope.names.lookup y = some .local := by rfl)
    (hw : swappedStores [.Tuple [.Name x px, .Name y py] kt pt] (.Tuple [a, b] k2 pt2) X.env = pure (some [x, y]) := by rfl) :
    SS X W (.Assign [.Tuple [.Name x px, .Name y py] kt pt] (.Tuple [a, b] k2 pt2) pos) (wPar [i, j] wr) := by
  refine psI (ps_par hc hN hi hj hij hx hy ha hw) fun Z s H h => ?_
  obtain ⟨am, Hf, r, p, S, hw, g1, g2, g3, g4, g5⟩ := h
  refine ⟨am, Hf, r, _, p.ex, S, hw, fun ys r1 am1 Hf1 H1 vs p1 S1 rs q => ?_, g5.at⟩
  obtain ⟨r', S', hl, q⟩ := putMany_ok S1 rs q
  match vs, hl, S' with
  | [v, w], _, S' => exact ⟨v, w, rfl, g1 r' am1 Hf1 H1 _ p1 S' q⟩
end
end Dl

/-! the data layer, part 5: what is walked, targets, for, while, comprehensions, more statements -/
namespace Dl
open PySem
open PySem.Spec
open PyProof.Rows
open L2
open Evl (Ex)
open RZ (ItzT pi_zipA)

/-! ### what is walked -/
abbrev WI := Env → (List D → Env → Prop) → XQ → Prop
/-- J walks data that stand for ds -/
def Wk (K : PySem.W.Frag) (Hf : Hp) (J : It) (ds : List D) : Prop := ∀ (i : Nat) (Hf' H' : Hp), Ex Hf Hf' → Ex Hf' H' →
  (∀ d, ds[i]? = some d → J.go i H' ∧ ∀ x H2, J.yld i H' x H2 → ∃ Hf2, Grow Hf' H' Hf2 H2 ∧ Rp K Hf2 x d) ∧ (ds.length = i → J.stop i H')
def tI (K : PySem.W.Frag) (mg : Str → Option Value) (W : WX) (w : WI) : TI := fun s H R => ∃ am Hf r k x, Sim K mg am Hf H s r ∧ w r k x ∧
  (∀ ds r' am' Hf' H' J, Stp am Hf H am' Hf' H' → Sim K mg am' Hf' H' s r' → Wk K Hf' J ds → k ds r' → R J H') ∧ XC K mg W x am Hf H s
abbrev SI (X : Cx) (W : WX) (tg e : Expr) (w : WI) : Prop := PI X tg e (tI X.K X.mg W w)
theorem piI {X : Cx} {tg e : Expr} {t t' : TI} (h : PI X tg e t) (i : ∀ s H R, t' s H R → t s H R) : PI X tg e t' := ⟨fun pins s σ H R I q => h.run pins s σ H R I (i _ _ _ q)⟩
section
variable {K : PySem.W.Frag} {Hf : Hp}
theorem Wk.list {a : Addr} {xs : List V} {ds : List D} (h : Hf a = some (.lst xs)) (r : RpA K Hf xs ds) : Wk K Hf (Itl K a) ds := fun i Hf' H' e1 e2 => by
  have hq : SqL K H' a xs := Evl.sq_of (e2 _ _ (e1 _ _ h))
  refine ⟨fun d hd => ?_, fun hle => have hl := Nat.le_of_eq hle; ⟨xs, hq, by rw [r.length]; exact hl⟩⟩
  obtain ⟨v, hv, rv⟩ := r.getD hd
  refine ⟨⟨xs, v, hq, hv⟩, fun x H2 hy => ?_⟩
  obtain ⟨rfl, hy⟩ := hy
  have e : x = v := Option.some.inj ((hy xs hq).symm.trans hv)
  rw [e]
  exact ⟨Hf', .refl e2, rv.mono e1⟩
theorem Wk.tup {a : Addr} {xs : List V} {ds : List D} (h : SqT K Hf a xs) (r : RpA K Hf xs ds) : Wk K Hf (Itt K a) ds := fun i Hf' H' e1 e2 => by
  have hq : SqT K H' a xs := Evl.ex_t (e1.trans e2) h
  refine ⟨fun d hd => ?_, fun hle => have hl := Nat.le_of_eq hle; ⟨xs, hq, by rw [r.length]; exact hl⟩⟩
  obtain ⟨v, hv, rv⟩ := r.getD hd
  refine ⟨⟨xs, v, hq, hv⟩, fun x H2 hy => ?_⟩
  obtain ⟨rfl, hy⟩ := hy
  have e : x = v := Option.some.inj ((hy xs hq).symm.trans hv)
  rw [e]
  exact ⟨Hf', .refl e2, rv.mono e1⟩
def sign (c : Nat) : D := .str ⟨#[c]⟩
def signs (z : Str) : List D := z.cps.toList.map sign
theorem Wk.str {z : Str} : Wk K Hf (Its z) (signs z) := fun i Hf' H' e1 e2 => by
  refine ⟨fun d hd => ?_, fun hle => have hl := Nat.le_of_eq hle; ?_⟩
  · unfold signs at hd
    rw [List.getElem?_map] at hd
    cases e : z.cps.toList[i]? with
    | none =>
      rw [e] at hd
      cases hd
    | some c =>
      rw [e] at hd
      have ed : sign c = d := Option.some.inj hd
      have ec : z.cps[i]? = some c := by simpa using e
      refine ⟨(Array.getElem?_eq_some_iff.mp ec).1, fun x H2 hy => ?_⟩
      obtain ⟨rfl, c', h1, rfl⟩ := hy
      rw [ec] at h1
      cases h1
      rw [← ed]
      exact ⟨Hf', .refl e2, .str _⟩
  · unfold signs at hl
    rw [List.length_map, Array.length_toList] at hl
    exact hl
def intR (lo : Int) (n : Nat) : List D := (List.range n).map fun (i : Nat) => .int (lo + i)
theorem Wk.rng {lo : Int} {n : Nat} : Wk K Hf (Itr lo n) (intR lo n) := fun i Hf' H' e1 e2 => by
  refine ⟨fun d hd => ?_, fun hle => have hl := Nat.le_of_eq hle; ?_⟩
  · unfold intR at hd
    rw [List.getElem?_map] at hd
    cases e : (List.range n)[i]? with
    | none =>
      rw [e] at hd
      cases hd
    | some j =>
      rw [e] at hd
      have hlt : i < n := by
        have := (List.getElem?_eq_some_iff.mp e).1
        rwa [List.length_range] at this
      have ej : j = i := by
        rw [List.getElem?_range hlt] at e
        exact (Option.some.inj e).symm
      have ed : PyData.int (lo + (j : Nat)) = d := Option.some.inj hd
      refine ⟨hlt, fun x H2 hy => ?_⟩
      obtain ⟨rfl, rfl⟩ := hy
      rw [← ed, ej]
      exact ⟨Hf', .refl e2, .int _⟩
  · unfold intR at hl
    rw [List.length_map, List.length_range] at hl
    exact hl
def intRC (lo c : Int) (n : Nat) : List D := (List.range n).map fun (i : Nat) => .int (lo + i * c)
theorem Wk.rngC {lo c : Int} {n : Nat} : Wk K Hf (Itc lo c n) (intRC lo c n) := fun i Hf' H' e1 e2 => by
  refine ⟨fun d hd => ?_, fun hle => have hl := Nat.le_of_eq hle; ?_⟩
  · unfold intRC at hd
    rw [List.getElem?_map] at hd
    cases e : (List.range n)[i]? with
    | none =>
      rw [e] at hd
      cases hd
    | some j =>
      rw [e] at hd
      have hlt : i < n := by
        have := (List.getElem?_eq_some_iff.mp e).1
        rwa [List.length_range] at this
      have ej : j = i := by
        rw [List.getElem?_range hlt] at e
        exact (Option.some.inj e).symm
      have ed : PyData.int (lo + (j : Nat) * c) = d := Option.some.inj hd
      refine ⟨hlt, fun x H2 hy => ?_⟩
      obtain ⟨rfl, rfl⟩ := hy
      rw [← ed, ej]
      exact ⟨Hf', .refl e2, .int _⟩
  · unfold intRC at hl
    rw [List.length_map, List.length_range] at hl
    exact hl
def pairs (ds es : List D) : List D := (ds.zip es).map fun p => .tuple [p.1, p.2]
theorem pairs_at {ds es : List D} {i : Nat} {d : D} (h : (pairs ds es)[i]? = some d) : ∃ a b, ds[i]? = some a ∧ es[i]? = some b ∧ d = .tuple [a, b] := by
  unfold pairs at h
  rw [List.getElem?_map] at h
  cases e : (ds.zip es)[i]? with
  | none =>
    rw [e] at h
    cases h
  | some p =>
    rw [e] at h
    obtain ⟨e1, e2⟩ := List.getElem?_zip_eq_some.mp e
    exact ⟨p.1, p.2, e1, e2, (Option.some.inj h).symm⟩
theorem pairs_len {ds es : List D} {i : Nat} (h : (pairs ds es).length ≤ i) : ds.length ≤ i ∨ es.length ≤ i := by
  unfold pairs at h
  rw [List.length_map, List.length_zip] at h
  omega
theorem pair_new {Hf' H' : Hp} {T : Addr} {x y : V} {a b : D} (e2 : Ex Hf' H') (hT : H' T = none) (ra : Rp K Hf' x a) (rb : Rp K Hf' y b) : ∃ Hf2, Grow Hf' H' Hf2 (upd H' T (.tup [x, y])) ∧ Rp K Hf2 (.ref T) (.tuple [a, b]) := by
  have g : Grow Hf' H' (upd Hf' T (.tup [x, y])) (upd H' T (.tup [x, y])) := .new e2 hT
  exact ⟨_, g, .tup (Evl.st_of upd_same) (.cons (ra.mono g.lf) (.cons (rb.mono g.lf) .nil))⟩
theorem Wk.zipL {a b : Addr} {xs ys : List V} {ds es : List D} (h : Hf a = some (.lst xs)) (h' : Hf b = some (.lst ys)) (r : RpA K Hf xs ds) (r' : RpA K Hf ys es) : Wk K Hf (Itz K a b) (pairs ds es) := fun i Hf' H' e1 e2 => by
  have hq : SqL K H' a xs := Evl.sq_of (e2 _ _ (e1 _ _ h))
  have hq' : SqL K H' b ys := Evl.sq_of (e2 _ _ (e1 _ _ h'))
  refine ⟨fun d hd => ?_, fun hle => have hl := Nat.le_of_eq hle; ⟨xs, ys, hq, hq', ?_⟩⟩
  · obtain ⟨da, db, g1, g2, rfl⟩ := pairs_at hd
    obtain ⟨v, hv, rv⟩ := r.getD g1
    obtain ⟨u, hu, ru⟩ := r'.getD g2
    refine ⟨⟨xs, ys, v, u, hq, hq', hv, hu⟩, fun x H2 hy => ?_⟩
    obtain ⟨T, x1, x2, rfl, hT, rfl, f1, f2⟩ := hy
    have e3 : x1 = v := Option.some.inj ((f1 xs hq).symm.trans hv)
    have e4 : x2 = u := Option.some.inj ((f2 ys hq').symm.trans hu)
    rw [e3, e4]
    exact pair_new e2 hT (rv.mono e1) (ru.mono e1)
  · rw [r.length, r'.length]
    exact pairs_len hl
theorem Wk.zipT {a b : Addr} {xs ys : List V} {ds es : List D} (h : SqT K Hf a xs) (h' : SqT K Hf b ys) (r : RpA K Hf xs ds) (r' : RpA K Hf ys es) : Wk K Hf (ItzT K a b) (pairs ds es) := fun i Hf' H' e1 e2 => by
  have hq : SqT K H' a xs := Evl.ex_t (e1.trans e2) h
  have hq' : SqT K H' b ys := Evl.ex_t (e1.trans e2) h'
  refine ⟨fun d hd => ?_, fun hle => have hl := Nat.le_of_eq hle; ⟨xs, ys, hq, hq', ?_⟩⟩
  · obtain ⟨da, db, g1, g2, rfl⟩ := pairs_at hd
    obtain ⟨v, hv, rv⟩ := r.getD g1
    obtain ⟨u, hu, ru⟩ := r'.getD g2
    refine ⟨⟨xs, ys, v, u, hq, hq', hv, hu⟩, fun x H2 hy => ?_⟩
    obtain ⟨T, x1, x2, rfl, hT, rfl, f1, f2⟩ := hy
    have e3 : x1 = v := Option.some.inj ((f1 xs hq).symm.trans hv)
    have e4 : x2 = u := Option.some.inj ((f2 ys hq').symm.trans hu)
    rw [e3, e4]
    exact pair_new e2 hT (rv.mono e1) (ru.mono e1)
  · rw [r.length, r'.length]
    exact pairs_len hl
theorem Wk.enum {a : Addr} {xs : List V} {ds : List D} (h : Hf a = some (.lst xs)) (r : RpA K Hf xs ds) : Wk K Hf (Ite K a) (pairs (intR 0 ds.length) ds) := fun i Hf' H' e1 e2 => by
  have hq : SqL K H' a xs := Evl.sq_of (e2 _ _ (e1 _ _ h))
  refine ⟨fun d hd => ?_, fun hle => have hl := Nat.le_of_eq hle; ⟨xs, hq, ?_⟩⟩
  · obtain ⟨da, db, g1, g2, rfl⟩ := pairs_at hd
    obtain ⟨u, hu, ru⟩ := r.getD g2
    have hlt : i < ds.length := (List.getElem?_eq_some_iff.mp g2).1
    have ea : PyData.int (i : Nat) = da := by
      unfold intR at g1
      rw [List.getElem?_map, List.getElem?_range hlt] at g1
      have := Option.some.inj g1
      rw [← this]
      congr 1
      omega
    refine ⟨⟨xs, u, hq, hu⟩, fun x H2 hy => ?_⟩
    obtain ⟨T, x2, rfl, hT, rfl, f2⟩ := hy
    have e4 : x2 = u := Option.some.inj ((f2 xs hq).symm.trans hu)
    rw [e4, ← ea]
    exact pair_new e2 hT (.int _) (ru.mono e1)
  · have := pairs_len hl
    unfold intR at this
    rw [List.length_map, List.length_range] at this
    rw [r.length]
    omega
end
def itemsD (d : D) (k : List D → Prop) : Prop := match d with
  | .list ds => k ds
  | .tuple ds => k ds
  | .str z => k (signs z)
  | _ => False
def wIt (we : WE) : WI := fun r k x => we r (fun y r1 => frz y r1 fun d r2 => itemsD d fun ds => k ds r2) x
def rng1 (ds : List D) (k : List D → Prop) : Prop := match ds with
  | [.int j] => -(2 ^ 62) ≤ j ∧ j < 2 ^ 62 ∧ k (intR 0 j.toNat)
  | _ => False
def rng2 (ds : List D) (k : List D → Prop) : Prop := match ds with
  | [.int i, .int j] => (-(2 ^ 62) ≤ i ∧ i < 2 ^ 62 ∧ -(2 ^ 62) ≤ j ∧ j < 2 ^ 62) ∧ k (intR i (j - i).toNat)
  | _ => False
/-- downward by ones -/
def rng3 (ds : List D) (k : List D → Prop) : Prop := match ds with
  | [.int i, .int j, .int c] => c = -1 ∧ (-(2 ^ 62) ≤ i ∧ i < 2 ^ 62 ∧ -(2 ^ 62) ≤ j ∧ j < 2 ^ 62) ∧ k (intRC i c (i - j).toNat)
  | _ => False
def wRng (g : List D → (List D → Prop) → Prop) (wr : WA) : WI := fun r k x => wr r (fun ys r1 => drefs ys r1 fun ds => g ds fun is => k is r1) x
def wZip (wr : WA) : WI := fun r k x => wr r (fun ys r1 => frzs ys r1 fun ds r2 => match ds with
  | [.list a, .list b] => k (pairs a b) r2
  | [.tuple a, .tuple b] => k (pairs a b) r2
  | _ => False) x
def wEnum (wr : WA) : WI := fun r k x => wr r (fun ys r1 => frzs ys r1 fun ds r2 => match ds with
  | [.list a] => k (pairs (intR 0 a.length) a) r2
  | _ => False) x
section
variable {X : Cx} {W : WX} {tg e a b c : Expr} {p pos tpos : Pos} {we : WE} {wr : WA} {elts : List Expr} {kk : Nat}
theorem si_it (h : SE X W e we) : SI X W tg e (wIt we) := by
  refine ⟨fun pins s σ H R I q => ?_⟩
  obtain ⟨am, Hf, r, k, x, S, hw, hk, hx⟩ := q
  refine thn (h.run pins s σ H (fun v H1 => ∃ am1 Hf1 r2 d, Stp am Hf H am1 Hf1 H1 ∧ Sim X.K X.mg am1 Hf1 H1 σ r2 ∧ Rp X.K Hf1 v d ∧ itemsD d fun ds => k ds r2) I ⟨am, Hf, r, _, x, S, hw, fun y r1 am1 Hf1 H1 v p1 S1 rr q => ?_, hx⟩) fun v s1 ⟨y, H1, I1, r1, am1, Hf1, r2, d, p1, S1, rd, q⟩ => ?_
  · obtain ⟨d, r2, Hf2, p2, S2, rd, q⟩ := frz_ok S1 rr q
    exact ⟨am1, Hf2, r2, d, p1.trans p2, S2, rd, q⟩
  · cases rd with
    | @lst a xs ds h1 h2 =>
      cases r1
      obtain ⟨its, rv, pl, hz⟩ := I1.list (Evl.sq_of (S1.le _ _ h1))
      exact wpAny_pyIter_list pl.isList (pi_one (tk := s1.toks) I1 _ (turn_list a _) ⟨_, Heap.get?_push_size _ rfl, rfl, rfl⟩ (hk ds r2 am1 Hf1 H1 _ p1 S1 (.list h1 h2) q))
    | @tup a xs ds h1 h2 =>
      cases r1
      obtain ⟨its, rv, pl, hz⟩ := I1.tuple (Evl.ex_t S1.le h1)
      exact wpAny_pyIter_tuple (show s1.heap.IsTuple a its.toArray from pl) (pi_one (tk := s1.toks) I1 _ (turn_tuple a _) ⟨_, Heap.get?_push_size _ rfl, rfl, rfl⟩ (hk ds r2 am1 Hf1 H1 _ p1 S1 (.tup h1 h2) q))
    | str z =>
      obtain ⟨t, rfl⟩ := r1
      have q2 := hk (signs z) r2 am1 Hf1 H1 _ p1 S1 .str q
      cases ha : z.cps.all (· < 128)
      · exact wpAny_pyIter_wide ha (pi_one (tk := s1.toks) I1 _ (turn_str _ z t _ (.inr rfl)) ⟨_, Heap.get?_push_size _ rfl, rfl, rfl⟩ q2)
      · exact wpAny_pyIter_ascii ha (pi_one (tk := s1.toks) I1 _ (turn_str _ z t _ (.inl rfl)) ⟨_, Heap.get?_push_size _ rfl, rfl, rfl⟩ q2)
    | _ => exact q.elim
theorem rpHs_int1 {K : PySem.W.Frag} {Hf H : Hp} {vs : List V} {i : Int} (h : RpHs K Hf H vs [.int i]) : vs = [.int i] := by
  cases h with
  | cons h t =>
    cases t
    rw [h.int]
theorem rpHs_int2 {K : PySem.W.Frag} {Hf H : Hp} {vs : List V} {i j : Int} (h : RpHs K Hf H vs [.int i, .int j]) : vs = [.int i, .int j] := by
  cases h with
  | cons h t =>
    rw [h.int, rpHs_int1 t]
theorem rpHs_int3 {K : PySem.W.Frag} {Hf H : Hp} {vs : List V} {i j l : Int} (h : RpHs K Hf H vs [.int i, .int j, .int l]) : vs = [.int i, .int j, .int l] := by
  cases h with
  | cons h t =>
    rw [h.int, rpHs_int2 t]
theorem si_rng1 (hm : X.mg "range" = none) (ha : SA X W [a] wr) (hg : Gl X "range" := by rfl) (hs : starEach [a] X.env = [(false, eval a X.env)] := by rfl) : SI X W tg (.Call (.Name "range" p) [a] [] pos) (wRng rng1 wr) := by
  refine piI (pi_range1 hg hm ha hs) fun s H R q => ?_
  obtain ⟨am, Hf, r, k, x, S, hw, hk, hx⟩ := q
  refine ⟨am, Hf, r, _, x, S, hw, fun ys r1 am1 Hf1 H1 vs p1 S1 rs q => ?_, hx⟩
  obtain ⟨ds, rds, q⟩ := drefs_ok S1 rs q
  unfold rng1 at q
  split at q
  · obtain ⟨h1, h2, q⟩ := q
    exact ⟨_, rpHs_int1 rds, h1, h2, hk _ r1 am1 Hf1 H1 _ p1 S1 .rng q⟩
  · exact q.elim
theorem si_rng2 (hm : X.mg "range" = none) (ha : SA X W [a, b] wr) (hg : Gl X "range" := by rfl) (hs : starEach [a, b] X.env = [(false, eval a X.env), (false, eval b X.env)] := by rfl) (hs2 : starEach [b] X.env = [(false, eval b X.env)] := by rfl) :
    SI X W tg (.Call (.Name "range" p) [a, b] [] pos) (wRng rng2 wr) := by
  refine piI (pi_range2 hg hm ha hs hs2) fun s H R q => ?_
  obtain ⟨am, Hf, r, k, x, S, hw, hk, hx⟩ := q
  refine ⟨am, Hf, r, _, x, S, hw, fun ys r1 am1 Hf1 H1 vs p1 S1 rs q => ?_, hx⟩
  obtain ⟨ds, rds, q⟩ := drefs_ok S1 rs q
  unfold rng2 at q
  split at q
  · obtain ⟨h1, q⟩ := q
    exact ⟨_, _, rpHs_int2 rds, h1, hk _ r1 am1 Hf1 H1 _ p1 S1 .rng q⟩
  · exact q.elim
theorem si_rng3 (hm : X.mg "range" = none) (ha : SA X W [a, b, c] wr) (hg : Gl X "range" := by rfl) (hs : starEach [a, b, c] X.env = (false, eval a X.env) :: starEach [b, c] X.env := by rfl) (hpl : (backTo pos (starEach [b, c] X.env)).any (·.1) = false := by rfl) :
    SI X W tg (.Call (.Name "range" p) [a, b, c] [] pos) (wRng rng3 wr) := by
  refine piI (pi_range3 hg hm ha hs hpl) fun s H R q => ?_
  obtain ⟨am, Hf, r, k, x, S, hw, hk, hx⟩ := q
  refine ⟨am, Hf, r, _, x, S, hw, fun ys r1 am1 Hf1 H1 vs p1 S1 rs q => ?_, hx⟩
  obtain ⟨ds, rds, q⟩ := drefs_ok S1 rs q
  unfold rng3 at q
  split at q
  · rename_i i j c
    obtain ⟨rfl, ⟨h1, h2, h3, h4⟩, q⟩ := q
    exact ⟨i, j, -1, (i - j).toNat, rpHs_int3 rds, RgC.neg h1 h2 h3 h4, hk _ r1 am1 Hf1 H1 _ p1 S1 .rngC q⟩
  · exact q.elim
theorem si_zip (hm : X.mg "zip" = none) (ha : SA X W [a, b] wr) (hg : Gl X "zip" := by rfl) (hs : starEach [a, b] X.env = (false, eval a X.env) :: starEach [b] X.env := by rfl) (hpl : (backTo pos (starEach [b] X.env)).any (·.1) = false := by rfl) :
    SI X W (.Tuple elts kk tpos) (.Call (.Name "zip" p) [a, b] [] pos) (wZip wr) := by
  refine piI (pi_zipA hg hm ha hs hpl) fun s H R q => ?_
  obtain ⟨am, Hf, r, k, x, S, hw, hk, hx⟩ := q
  refine ⟨am, Hf, r, _, x, S, hw, fun ys r1 am1 Hf1 H1 vs p1 S1 rs q => ?_, hx⟩
  obtain ⟨ds, r2, Hf2, p2, S2, ra, q⟩ := frzs_ok S1 rs q
  have p3 := p1.trans p2
  split at q
  · cases ra with
    | cons h t =>
      cases t with
      | cons h' t' =>
        cases t'
        cases h with
        | lst h1 g1 =>
          cases h' with
          | lst h2 g2 => exact ⟨_, _, _, _, rfl, .inl ⟨Evl.sq_of (S2.le _ _ h1), Evl.sq_of (S2.le _ _ h2), hk _ r2 am1 Hf2 H1 _ p3 S2 (.zipL h1 h2 g1 g2) q⟩⟩
  · cases ra with
    | cons h t =>
      cases t with
      | cons h' t' =>
        cases t'
        cases h with
        | tup h1 g1 =>
          cases h' with
          | tup h2 g2 => exact ⟨_, _, _, _, rfl, .inr ⟨Evl.ex_t S2.le h1, Evl.ex_t S2.le h2, hk _ r2 am1 Hf2 H1 _ p3 S2 (.zipT h1 h2 g1 g2) q⟩⟩
  · exact q.elim
theorem si_enum (hm : X.mg "enumerate" = none) (ha : SA X W [a] wr) (hg : Gl X "enumerate" := by rfl) (hs : starEach [a] X.env = [(false, eval a X.env)] := by rfl) :
    SI X W (.Tuple elts kk tpos) (.Call (.Name "enumerate" p) [a] [] pos) (wEnum wr) := by
  refine piI (pi_enum hg hm ha hs) fun s H R q => ?_
  obtain ⟨am, Hf, r, k, x, S, hw, hk, hx⟩ := q
  refine ⟨am, Hf, r, _, x, S, hw, fun ys r1 am1 Hf1 H1 vs p1 S1 rs q => ?_, hx⟩
  obtain ⟨ds, r2, Hf2, p2, S2, ra, q⟩ := frzs_ok S1 rs q
  split at q
  · cases ra with
    | cons h t =>
      cases t
      cases h with
      | lst h1 g1 => exact ⟨_, _, rfl, Evl.sq_of (S2.le _ _ h1), hk _ r2 am1 Hf2 H1 _ (p1.trans p2) S2 (.enum h1 g1) q⟩
  · exact q.elim
end

/-! ### targets: a name, a tuple of names -/
inductive Tg where
  | nm (i : Nat)
  | tp (is : List Nat)
def gNs : List Nat → TGs
  | [] => gNil
  | i :: is => gCons (gName i) (gNs is)
def gT (K : PySem.W.Frag) : Tg → TG
  | .nm i => gName i
  | .tp is => gTup K is.length (gNs is)
def asgT (t : Tg) (d : D) (r : Env) (k : Env → Prop) : Prop := match t with
  | .nm i => k (r.put i (.d d))
  | .tp is => match d with
    | .tuple ds => putMany is (ds.map R.d) r k
    | _ => False
def Tg.slots : Tg → List Nat
  | .nm i => [i]
  | .tp is => is
theorem wipe_set {vs : List Nat} {i : Nat} {v : V} (h : i ∈ vs) : ∀ s : L2.St, wipe (s.set i (some v)) vs = wipe s vs := by
  induction vs with
  | nil => cases h
  | cons j vs ih =>
    intro s
    show (wipe (s.set i (some v)) vs).set j none = (wipe s vs).set j none
    by_cases hij : i = j
    · subst hij
      by_cases hm : i ∈ vs
      · rw [ih hm]
      · have e : wipe (s.set i (some v)) vs = (wipe s vs).set i (some v) := by
          clear ih h
          induction vs generalizing s with
          | nil => rfl
          | cons l vs ih =>
            have hl : l ≠ i := fun z => hm (by rw [z]; exact List.mem_cons_self)
            show (wipe (s.set i (some v)) vs).set l none = ((wipe s vs).set l none).set i (some v)
            rw [ih s fun z => hm (List.mem_cons_of_mem _ z), List.set_comm _ _ (Ne.symm hl)]
        rw [e, List.set_set]
    · rcases List.mem_cons.mp h with z | z
      · exact absurd z hij
      · rw [ih z]
theorem rpa_pair {K : PySem.W.Frag} {mg : Str → Option Value} {am : List Addr} {Hf : Hp} : ∀ {xs : List V} {ds : List D}, RpA K Hf xs ds → Paired (RelR K mg am Hf) xs (ds.map R.d)
  | _, _, .nil => .nil
  | _, _, .cons h t => .cons h (rpa_pair t)
theorem gNs_of {vs : List Nat} : ∀ {is : List Nat} {xs : List V} {s : L2.St} {H : Hp} {Q : L2.St → Hp → Prop}, is.length = xs.length → Q (setsV is xs s) H → gNs is xs s H Q
  | [], [], s, H, Q, _, q => ⟨rfl, q⟩
  | i :: is, v :: xs, s, H, Q, e, q => ⟨v, xs, rfl, gNs_of (vs := vs) (Nat.succ.inj e) q⟩
  | [], _ :: _, _, _, _, e, _ => by cases e
  | _ :: _, [], _, _, _, e, _ => by cases e
theorem wipe_sets {vs : List Nat} : ∀ {is : List Nat} {xs : List V} {s : L2.St}, (∀ i ∈ is, i ∈ vs) → wipe (setsV is xs s) vs = wipe s vs
  | [], xs, s, _ => by cases xs <;> rfl
  | i :: is, [], s, _ => rfl
  | i :: is, v :: xs, s, h => by
    show wipe (setsV is xs (s.set i (some v))) vs = wipe s vs
    rw [wipe_sets (is := is) fun j hj => h j (List.mem_cons_of_mem _ hj), wipe_set (h i List.mem_cons_self)]
theorem gT_of {K : PySem.W.Frag} {mg : Str → Option Value} {am : List Addr} {Hf H : Hp} {s : L2.St} {r : Env} {t : Tg} {v : V} {d : D} {k : Env → Prop} {Q : L2.St → Hp → Prop} (S : Sim K mg am Hf H s r) (rv : Rp K Hf v d) (h : asgT t d r k)
    (hQ : ∀ s' r', Sim K mg am Hf H s' r' → (∀ vs, (∀ i ∈ t.slots, i ∈ vs) → wipe s' vs = wipe s vs) → k r' → Q s' H) : gT K t v s H Q := by
  cases t with
  | nm i => exact hQ _ _ (S.set i (y := .d d) rv) (fun vs hv => wipe_set (hv i (by simp [Tg.slots])) s) h
  | tp is =>
    cases d with
    | tuple ds =>
      cases rv with
      | tup h1 h2 =>
        obtain ⟨r', S', hl, q⟩ := putMany_ok S (rpa_pair h2) h
        exact ⟨_, _, rfl, Evl.ex_t S.le h1, hl.symm, gNs_of (vs := []) hl (hQ _ r' S' (fun vs hv => wipe_sets hv) q)⟩
    | _ => exact h.elim
abbrev SG (X : Cx) (tg : Expr) (t : Tg) : Prop := PG X tg (gT X.K t)
section
variable {X : Cx} {pos : Pos}
theorem sg_nm (i : Nat) {x : Str} (hN : X.N.Nodup) (hi : X.N[i]? = some x := by rfl) (hx : Loc X.env.scope x := by first | exact Or.inl rfl | exact Or.inr rfl) (hf : X.fn x = true ∨ X.env.scope.names.lookup x = some .local := by first | exact .inl rfl | exact .inr rfl | assumption) : SG X (.Name x pos) (.nm i) := pg_name hN hi hx hf
theorem sg_tp {is : List Nat} {es : List Expr} {k : Nat} (h : PGs X es (gNs is)) (hc : X.calm = true) (hn : (assignEach es X.env).length = is.length := by rfl) (hst : (assignEach es X.env).findIdx? (·.1) = none := by rfl) : SG X (.Tuple es k pos) (.tp is) := pg_tup hc h hn hst
end

/-! ### for -/
def loopF (t : Tg) (wb : WS) (p : Post) : List D → Env → Prop
  | [], r => p.nx r
  | d :: ds, r => asgT t d r fun r1 => wb r1 { p with nx := loopF t wb p ds, ct := loopF t wb p ds, bk := p.nx }
def wFor (t : Tg) (wi : WI) (wb : WS) : WS := fun r p => wi r (fun ds r1 => loopF t wb p ds r1) p.ex
section
variable {X : Cx} {W : WX} {tg e c : Expr} {pos : Pos} {body : List Stmt} {t : Tg} {wi : WI} {wb : WS} {wt : WT}
theorem ss_for (hp : PassesOwn (model X.prog X.w) X.A X.env X.xe) (hc : X.calm = true) (hi : SI X W tg e wi) (hg : SG X tg t) (hb : SB X W body wb) (hs : ∀ x, foldedSetIterable e X.env x = pure x := by intro _; rfl) :
    SS X W (.For tg e body [] pos) (wFor t wi wb) := by
  refine psI (ps_for hp hc hi hg hb hs) fun Z s H h => ?_
  obtain ⟨am, Hf, r, p, S, hw, g1, g2, g3, g4, g5⟩ := h
  refine ⟨am, Hf, r, _, p.ex, S, hw, fun ds r1 am1 Hf1 H1 J p1 S1 wk q => ?_, g5.at⟩
  refine ⟨fun i m s' H' => i + m = ds.length ∧ ∃ am2 Hf2 r2, Stp am Hf H am2 Hf2 H' ∧ Ex Hf1 Hf2 ∧ Sim X.K X.mg am2 Hf2 H' s' r2 ∧ loopF t wb p (ds.drop i) r2, ⟨ds.length, by omega, am1, Hf1, r1, p1, Evl.Ex.refl _, S1, q⟩, ?_⟩
  rintro i m s' H' ⟨him, am2, Hf2, r2, p2, ex2, S2, q2⟩
  obtain ⟨w1, w2⟩ := wk i Hf2 H' ex2 S2.le
  cases e : ds[i]? with
  | none =>
    have hl : ds.length ≤ i := List.getElem?_eq_none_iff.mp e
    rw [List.drop_eq_nil_of_le hl] at q2
    exact .inl ⟨w2 (by omega), g1 r2 am2 Hf2 H' s' p2 S2 q2⟩
  | some d =>
    have hlt : i < ds.length := (List.getElem?_eq_some_iff.mp e).1
    have ed : ds.drop i = d :: ds.drop (i + 1) := by
      rw [List.drop_eq_getElem_cons hlt]
      congr 1
      exact (List.getElem?_eq_some_iff.mp e).2
    rw [ed] at q2
    obtain ⟨go, y⟩ := w1 d e
    refine .inr ⟨go, fun s3 H3 => ∃ am3 Hf3 r3, Stp am Hf H am3 Hf3 H3 ∧ Ex Hf1 Hf3 ∧ Sim X.K X.mg am3 Hf3 H3 s3 r3 ∧ loopF t wb p (ds.drop (i + 1)) r3, fun s3 H3 ⟨am3, Hf3, r3, h1, h2, h3, h4⟩ => ⟨m - 1, by omega, by omega, am3, Hf3, r3, h1, h2, h3, h4⟩, fun x H2 hy => ?_⟩
    obtain ⟨Hf4, gr, rv⟩ := y x H2 hy
    have S4 := S2.grow gr
    have p4 := p2.trans (gr.stp (am := am2))
    have ex4 := ex2.trans gr.lf
    refine gT_of S4 rv q2 fun s5 r5 S5 _ q5 => ?_
    have again : ∀ r' am' Hf' H' s', Stp am2 Hf4 H2 am' Hf' H' → Sim X.K X.mg am' Hf' H' s' r' → loopF t wb p (ds.drop (i + 1)) r' → ∃ am3 Hf3 r3, Stp am Hf H am3 Hf3 H' ∧ Ex Hf1 Hf3 ∧ Sim X.K X.mg am3 Hf3 H' s' r3 ∧ loopF t wb p (ds.drop (i + 1)) r3 :=
      fun r' am' Hf' H' s' pp SS q => ⟨am', Hf', r', p4.trans pp, ex4.trans pp.le, SS, q⟩
    exact ⟨am2, Hf4, r5, _, S5, q5, again, fun y r' am' Hf' H' s' v pp SS rr q => g2 y r' am' Hf' H' s' v (p4.trans pp) SS rr q, fun r' am' Hf' H' s' pp SS q => g1 r' am' Hf' H' s' (p4.trans pp) SS q, again, g5.next p4⟩
/-! ### while: a word of the state and a number that falls -/
def wWhile (wt : WT) (wb : WS) : WS := fun r p => ∃ Wd : Nat → Env → Prop, (∃ m, Wd m r) ∧ ∀ m r, Wd m r → wt r (fun b r1 => match b with
  | true => wb r1 { p with nx := fun r2 => ∃ m', m' < m ∧ Wd m' r2, ct := fun r2 => ∃ m', m' < m ∧ Wd m' r2, bk := p.nx }
  | false => p.nx r1) p.ex
theorem ss_while (hp : PassesOwn (model X.prog X.w) X.A X.env X.xe) (hc : ST X W c wt) (hb : SB X W body wb) : SS X W (.While c body [] pos) (wWhile wt wb) := by
  refine psI (ps_while hp hc hb) fun Z s H h => ?_
  obtain ⟨am, Hf, r, p, S, ⟨Wd, ⟨m0, w0⟩, turn⟩, g1, g2, g3, g4, g5⟩ := h
  refine ⟨fun m s' H' => ∃ am2 Hf2 r2, Stp am Hf H am2 Hf2 H' ∧ Sim X.K X.mg am2 Hf2 H' s' r2 ∧ Wd m r2, ⟨m0, am, Hf, r, .refl, S, w0⟩, ?_⟩
  rintro m s' H' ⟨am2, Hf2, r2, p2, S2, w2⟩
  refine ⟨am2, Hf2, r2, _, p.ex, S2, turn m r2 w2, fun b r3 am3 Hf3 H3 p3 S3 q => ?_, (g5.next p2).at⟩
  have p4 := p2.trans p3
  cases b with
  | true =>
    refine ⟨fun s5 H5 => ∃ m', m' < m ∧ ∃ am5 Hf5 r5, Stp am Hf H am5 Hf5 H5 ∧ Sim X.K X.mg am5 Hf5 H5 s5 r5 ∧ Wd m' r5, fun s5 H5 h => h, ?_⟩
    have again : ∀ r' am' Hf' H' s', Stp am3 Hf3 H3 am' Hf' H' → Sim X.K X.mg am' Hf' H' s' r' → (∃ m', m' < m ∧ Wd m' r') → ∃ m', m' < m ∧ ∃ am5 Hf5 r5, Stp am Hf H am5 Hf5 H' ∧ Sim X.K X.mg am5 Hf5 H' s' r5 ∧ Wd m' r5 :=
      fun r' am' Hf' H' s' pp SS ⟨m', hm, q⟩ => ⟨m', hm, am', Hf', r', p4.trans pp, SS, q⟩
    exact ⟨am3, Hf3, r3, _, S3, q, again, fun y r' am' Hf' H' s' v pp SS rr q => g2 y r' am' Hf' H' s' v (p4.trans pp) SS rr q, fun r' am' Hf' H' s' pp SS q => g1 r' am' Hf' H' s' (p4.trans pp) SS q, again, g5.next p4⟩
  | false => exact g1 r3 am3 Hf3 H3 s' p4 S3 q
end
end Dl

/-! the data layer, part 6: comprehensions, several names at once, stores by place, += -/
namespace Dl
open PySem
open PySem.Spec
open PyProof.Rows
open L2
open Evl (Ex)

/-! ### comprehensions -/
def wipeL {α : Type} (l : List (Option α)) : List Nat → List (Option α)
  | [] => l
  | v :: vs => (wipeL l vs).set v none
def Env.wipe (r : Env) (vs : List Nat) : Env := ⟨wipeL r.sl vs, r.st⟩
/-- behind the comprehension: what its own names held before -/
def heldD (r : Env) (i : Nat) : Option R := match r.sl[i]? with
  | some (some (.d x)) => some (.d x)
  | _ => none
def mendL (r : Env) (l : List (Option R)) : List Nat → List (Option R)
  | [] => l
  | v :: vs => (mendL r l vs).set v (heldD r v)
def Env.mend (r : Env) (r0 : Env) (vs : List Nat) : Env := ⟨mendL r0 r.sl vs, r.st⟩
section
variable {K : PySem.W.Frag} {mg : Str → Option Value} {am am0 : List Addr} {Hf H Hf0 H0 : Hp} {s s0 : L2.St} {r r0 : Env}
theorem wipeL_some {α : Type} {l : List (Option α)} {i : Nat} {x : α} : ∀ {vs : List Nat}, (wipeL l vs)[i]? = some (some x) → l[i]? = some (some x) ∧ i ∉ vs
  | [], h => ⟨h, by simp⟩
  | v :: vs, h => by
    have h' : ((wipeL l vs).set v none)[i]? = some (some x) := h
    by_cases hv : v = i
    · rw [hv] at h'
      by_cases hl : i < (wipeL l vs).length
      · rw [List.getElem?_set_self hl] at h'
        cases h'
      · rw [List.getElem?_eq_none (by rw [List.length_set]; omega)] at h'
        cases h'
    · rw [List.getElem?_set_ne hv] at h'
      obtain ⟨a, b⟩ := wipeL_some h'
      exact ⟨a, by simp only [List.mem_cons, not_or]; exact ⟨fun z => hv z.symm, b⟩⟩
theorem wipeL_len {α : Type} (l : List (Option α)) : ∀ vs : List Nat, (wipeL l vs).length = l.length
  | [] => rfl
  | v :: vs => by
    show ((wipeL l vs).set v none).length = l.length
    rw [List.length_set, wipeL_len l vs]
theorem wipe_out {l : L2.St} {i : Nat} {x : Option V} : ∀ {vs : List Nat}, i ∉ vs → ((wipe l vs)[i]? = some x ↔ l[i]? = some x)
  | [], _ => Iff.rfl
  | v :: vs, h => by
    have hv : v ≠ i := fun z => h (by rw [z]; exact List.mem_cons_self)
    show ((wipe l vs).set v none)[i]? = some x ↔ l[i]? = some x
    rw [List.getElem?_set_ne hv]
    exact wipe_out fun z => h (List.mem_cons_of_mem _ z)
theorem Sim.wipe (S : Sim K mg am Hf H s r) (vs : List Nat) : Sim K mg am Hf H (L2.wipe s vs) (r.wipe vs) := by
  refine ⟨S.le, S.len, S.nd, S.tr, S.live, fun i x h => ?_, ?_⟩
  · obtain ⟨h1, h2⟩ := wipeL_some h
    obtain ⟨v, h3, h4⟩ := S.sl i x h1
    exact ⟨v, (wipe_out h2).mpr h3, h4⟩
  · show (wipeL r.sl vs).length = (L2.wipe s vs).length
    rw [wipeL_len, wipe_length]
    exact S.sz
theorem mendL_len {l : List (Option R)} : ∀ {vs : List Nat}, (mendL r0 l vs).length = l.length
  | [] => rfl
  | v :: vs => by
    show ((mendL r0 l vs).set v _).length = l.length
    rw [List.length_set, mendL_len]
theorem mendL_some {l : List (Option R)} {i : Nat} {x : R} : ∀ {vs : List Nat}, (mendL r0 l vs)[i]? = some (some x) → (i ∈ vs ∧ r0.sl[i]? = some (some x) ∧ ∃ d, x = .d d) ∨ (i ∉ vs ∧ l[i]? = some (some x))
  | [], h => .inr ⟨by simp, h⟩
  | v :: vs, h => by
    have h' : ((mendL r0 l vs).set v (heldD r0 v))[i]? = some (some x) := h
    by_cases hv : v = i
    · rw [hv] at h'
      by_cases hl : i < (mendL r0 l vs).length
      · rw [List.getElem?_set_self hl] at h'
        have h2 : heldD r0 i = some x := Option.some.inj h'
        unfold heldD at h2
        split at h2
        · rename_i d e
          cases h2
          exact .inl ⟨by rw [hv]; exact List.mem_cons_self, e, d, rfl⟩
        · cases h2
      · rw [List.getElem?_eq_none (by rw [List.length_set]; omega)] at h'
        cases h'
    · rw [List.getElem?_set_ne hv] at h'
      rcases mendL_some h' with ⟨a, b⟩ | ⟨a, b⟩
      · exact .inl ⟨List.mem_cons_of_mem _ a, b⟩
      · exact .inr ⟨by simp only [List.mem_cons, not_or]; exact ⟨fun z => hv z.symm, a⟩, b⟩
theorem Sim.mend (S0 : Sim K mg am0 Hf0 H0 s0 r0) (p : Stp am0 Hf0 H0 am Hf H) (S : Sim K mg am Hf H s r) {vs : List Nat} (hw : L2.wipe s vs = L2.wipe s0 vs) : Sim K mg am Hf H s0 (r.mend r0 vs) := by
  refine ⟨S.le, S.len, S.nd, S.tr, S.live, fun i x h => ?_, ?_⟩
  · rcases mendL_some h with ⟨h1, h2, d, rfl⟩ | ⟨h1, h2⟩
    · obtain ⟨v, h3, h4⟩ := S0.sl i _ h2
      exact ⟨v, h3, h4.mono p⟩
    · obtain ⟨v, h3, h4⟩ := S.sl i x h2
      refine ⟨v, ?_, h4⟩
      have := (wipe_out (l := s) h1).mpr h3
      rw [hw] at this
      exact (wipe_out h1).mp this
  · show (mendL r0 r.sl vs).length = s0.length
    have e : s.length = s0.length := by
      have := congrArg List.length hw
      rwa [wipe_length, wipe_length] at this
    rw [mendL_len, S.sz, e]
end
def wYes : WT := fun r k _ => k true r
def noX : XQ := fun _ _ => False
def loopC (t : Tg) (wt : WT) (we : WE) (vs : List Nat) (k : List D → Env → Prop) : List D → List D → Env → Prop
  | [], acc, r => k acc r
  | d :: ds, acc, r => asgT t d (r.wipe vs) fun r1 => wt r1 (fun b r2 => match b with
    | true => we r2 (fun y r3 => frz y r3 fun z r4 => acc.length < sizeLine ∧ loopC t wt we vs k ds (acc ++ [z]) r4) noX
    | false => loopC t wt we vs k ds acc r2) noX
def wLc (t : Tg) (wi : WI) (wt : WT) (we : WE) (vs : List Nat) : WL := fun r k x => wi r (fun ds r1 => loopC t wt we vs (fun acc r2 => k acc (r2.mend r1 vs)) ds [] r1) x
abbrev W0 : WX := fun _ _ _ _ => False
theorem xc0 {K : PySem.W.Frag} {mg : Str → Option Value} {am : List Addr} {Hf H : Hp} {s : L2.St} : XC K mg W0 noX am Hf H s := fun _ _ _ _ _ _ _ _ _ _ _ _ h => h
theorem xs0 {K : PySem.W.Frag} {mg : Str → Option Value} {am : List Addr} {Hf H : Hp} : XS K mg W0 noX am Hf H := fun _ _ _ _ _ _ _ _ _ _ _ h => h
abbrev STs (X : Cx) (ifs : List Expr) (w : WT) : Prop := PTs X ifs (tT X.K X.mg W0 w)
theorem sts_nil {X : Cx} : STs X [] wYes := ⟨fun pins s σ H Q I h => by
  obtain ⟨am, Hf, r, k, x, S, hw, hk, hx⟩ := h
  exact pts_nil.run pins s σ H Q I (hk true r am Hf H .refl S hw)⟩
theorem sts_one {X : Cx} {c : Expr} {w : WT} (h : ST X W0 c w) : STs X [c] w := pts_one h
theorem lc_of {K : PySem.W.Frag} {mg : Str → Option Value} {W : WX} {t : Tg} {wi : WI} {wt : WT} {we : WE} {vs : List Nat} (ht : ∀ i ∈ t.slots, i ∈ vs) {s : L2.St} {H : Hp} {Q : VK} (h : tL K mg W (wLc t wi wt we vs) s H Q) :
    tLc (tI K mg W wi) (gT K t) (tT K mg W0 wt) (tE K mg W0 we) vs s H Q := by
  obtain ⟨am, Hf, r, k, x, S, hw, hk, hx⟩ := h
  refine ⟨am, Hf, r, _, x, S, hw, fun ds r1 am1 Hf1 H1 J p1 S1 wk q => ?_, hx⟩
  intro D hD
  refine ⟨fun i m H' => i + m = ds.length ∧ ∃ am2 Hf2 r2 s2 acc xs, Stp am1 Hf1 H1 am2 Hf2 H' ∧ Ex Hf1 Hf2 ∧ Sim K mg am2 Hf2 H' s2 r2 ∧ L2.wipe s2 vs = L2.wipe s vs ∧ H' D = some (.lst xs) ∧ Hf2 D = none ∧ D ∉ am2 ∧ RpA K Hf2 xs acc ∧
    loopC t wt we vs (fun acc r2 => k acc (r2.mend r1 vs)) (ds.drop i) acc r2, ⟨ds.length, by omega, am1, Hf1, r1, s, [], [], ?_, Evl.Ex.refl _, ?_, rfl, upd_same, ?_, ?_, .nil, q⟩, ?_⟩
  · exact (Grow.lost S1.le hD).stp
  · exact S1.grow (.lost S1.le hD)
  · exact Evl.fresh_back S1.le hD
  · exact fun hm => S1.tr D hm hD
  rintro i m H' ⟨him, am2, Hf2, r2, s2, acc, xs, p2, ex2, S2, hwp, hDx, hDf, hDm, ra, q2⟩
  obtain ⟨w1, w2⟩ := wk i Hf2 H' ex2 S2.le
  cases e : ds[i]? with
  | none =>
    have hl : ds.length ≤ i := List.getElem?_eq_none_iff.mp e
    rw [List.drop_eq_nil_of_le hl] at q2
    refine .inl ⟨w2 (by omega), hk acc _ am2 Hf2 H' D xs (p1.trans p2) (S1.mend p2 S2 hwp) hDx hDf hDm ?_ ra q2⟩
    cases z : H D with
    | none => rfl
    | some o => exact absurd hD (p1.kp D (by rw [z]; simp))
  | some d =>
    have hlt : i < ds.length := (List.getElem?_eq_some_iff.mp e).1
    have ed : ds.drop i = d :: ds.drop (i + 1) := by
      rw [List.drop_eq_getElem_cons hlt]
      congr 1
      exact (List.getElem?_eq_some_iff.mp e).2
    rw [ed] at q2
    obtain ⟨go, y⟩ := w1 d e
    refine .inr ⟨go, fun H3 => ∃ am3 Hf3 r3 s3 acc xs, Stp am1 Hf1 H1 am3 Hf3 H3 ∧ Ex Hf1 Hf3 ∧ Sim K mg am3 Hf3 H3 s3 r3 ∧ L2.wipe s3 vs = L2.wipe s vs ∧ H3 D = some (.lst xs) ∧ Hf3 D = none ∧ D ∉ am3 ∧ RpA K Hf3 xs acc ∧
      loopC t wt we vs (fun acc r2 => k acc (r2.mend r1 vs)) (ds.drop (i + 1)) acc r3, fun H3 ⟨am3, Hf3, r3, s3, acc, xs, h⟩ => ⟨m - 1, by omega, by omega, am3, Hf3, r3, s3, acc, xs, h⟩, fun xv H2 hy => ?_⟩
    obtain ⟨Hf4, gr, rv⟩ := y xv H2 hy
    have Sw : Sim K mg am2 Hf4 H2 (L2.wipe s vs) (r2.wipe vs) := by
      rw [← hwp]
      exact (S2.grow gr).wipe vs
    have p4 := p2.trans (gr.stp (am := am2))
    have keepD : ∀ {am5 : List Addr} {Hf5 H5 : Hp}, Stp am2 Hf4 H2 am5 Hf5 H5 → H5 D = some (.lst xs) ∧ Hf5 D = none ∧ D ∉ am5 := fun {am5 Hf5 H5} pp => by
      have h1 : H2 D = some (.lst xs) := gr.lh D _ hDx
      refine ⟨pp.old D _ h1 hDm, ?_, fun hm => ?_⟩
      · cases z : Hf5 D with
        | none => rfl
        | some o =>
          rcases pp.fz D o z with g | g | g
          · rcases gr.fz D o g with g | g
            · rw [hDf] at g
              cases g
            · rw [hDx] at g
              cases g
          · rw [h1] at g
            cases g
          · exact absurd g hDm
      · rcases pp.nw D hm with g | g
        · exact hDm g
        · rw [h1] at g
          cases g
    refine gT_of Sw rv q2 fun s5 r5 S5 hw5 q5 => ?_
    have hw5' : L2.wipe s5 vs = L2.wipe s vs := by
      rw [hw5 vs ht]
      have : ∀ (vs' : List Nat), (∀ i ∈ vs', i ∈ vs) → L2.wipe (L2.wipe s vs) vs' = L2.wipe s vs := by
        intro vs'
        induction vs' with
        | nil => intro _; rfl
        | cons a l ih =>
          intro hh
          show (L2.wipe (L2.wipe s vs) l).set a none = L2.wipe s vs
          rw [ih fun i hi => hh i (List.mem_cons_of_mem _ hi)]
          have ha : a ∈ vs := hh a List.mem_cons_self
          apply List.ext_getElem?
          intro j
          by_cases hj : a = j
          · subst hj
            by_cases hl : a < (L2.wipe s vs).length
            · rw [List.getElem?_set_self hl]
              cases z : (L2.wipe s vs)[a]? with
              | none => exact absurd (List.getElem?_eq_none_iff.mp z) (by omega)
              | some o =>
                cases o with
                | none => rfl
                | some v => exact absurd ha (wipe_some z).2
            · rw [List.getElem?_eq_none (by rw [List.length_set]; omega), List.getElem?_eq_none (by omega)]
          · rw [List.getElem?_set_ne hj]
      exact this vs fun i hi => hi
    refine ⟨hw5', am2, Hf4, r5, _, noX, S5, q5, fun b r6 am6 Hf6 H6 p6 S6 q6 => ?_, xc0⟩
    cases b with
    | false =>
      obtain ⟨k1, k2, k3⟩ := keepD p6
      exact ⟨am6, Hf6, r6, s5, acc, xs, p4.trans p6, (ex2.trans gr.lf).trans p6.le, S6, hw5', k1, k2, k3, (ra.mono gr.lf).mono p6.le, q6⟩
    | true =>
      show tE K mg W0 we s5 H6 _
      refine ⟨am6, Hf6, r6, _, noX, S6, q6, fun y7 r7 am7 Hf7 H7 v7 p7 S7 rr7 q7 => ?_, xc0⟩
      obtain ⟨z, r8, Hf8, p8, S8, rz, hz, q8⟩ := frz_ok S7 rr7 q7
      have p68 := (p6.trans p7).trans p8
      obtain ⟨k1, k2, k3⟩ := keepD p68
      have ra8 : RpA K Hf8 xs acc := (ra.mono gr.lf).mono p68.le
      refine ⟨xs, k1, by rw [ra8.length]; exact hz, am7, Hf8, r8, s5, acc ++ [z], xs ++ [v7], ?_, ((ex2.trans gr.lf).trans p68.le), ?_, hw5', upd_same, k2, k3, ra8.append (.cons rz .nil), q8⟩
      · have pall := p4.trans p68
        refine ⟨pall.pre, pall.nw, pall.le, fun b o hb hn => ?_, pall.fz, fun b hb => ?_⟩
        · have hbD : b ≠ D := fun z => by
            rw [z, hD] at hb
            cases hb
          rw [upd_ne hbD]
          exact pall.old b o hb hn
        · by_cases hbD : b = D
          · rw [hbD, upd_same]
            simp
          · rw [upd_ne hbD]
            exact pall.kp b hb
      · refine ⟨fun b o hb => ?_, S8.len, S8.nd, fun a ha => ?_, fun n a es h1 h2 => ?_, S8.sl, S8.sz⟩
        · have hbD : b ≠ D := fun z => by
            rw [z, k2] at hb
            cases hb
          rw [upd_ne hbD]
          exact S8.le b o hb
        · by_cases haD : a = D
          · rw [haD, upd_same]
            simp
          · rw [upd_ne haD]
            exact S8.tr a ha
        · obtain ⟨f0, ys, f1, f2⟩ := S8.live n a es h1 h2
          have haD : a ≠ D := fun z => k3 (z ▸ List.mem_of_getElem? h1)
          exact ⟨f0, ys, by rw [upd_ne haD]; exact f1, f2⟩
section
variable {X : Cx} {W : WX} {elt tg iter : Expr} {ifs : List Expr} {scope : Scope} {own : List (Str × Nat)} {pos spos py : Pos} {t : Tg} {wi : WI} {wt : WT} {we : WE}
theorem sl_lc (hc : X.calm = true) (hN : X.N.Nodup) (hi : SI X W tg iter wi) (ok : blkC X.N X.env.scope scope own = true)
    (hg : ∀ (s : Shared) (H : Hp) (C : Addr) (cl : List (Str × Addr)) (fp : List Addr), SG (X.blk s H scope (compEnvC scope cl C X.env) fp) tg t)
    (ht : ∀ (s : Shared) (H : Hp) (C : Addr) (cl : List (Str × Addr)) (fp : List Addr), STs (X.blk s H scope (compEnvC scope cl C X.env) fp) ifs wt)
    (he : ∀ (s : Shared) (H : Hp) (C : Addr) (cl : List (Str × Addr)) (fp : List Addr), SE (X.blk s H scope (compEnvC scope cl C X.env) fp) W0 elt we)
    (hs : ∀ i ∈ t.slots, i ∈ own.map (·.2) := by decide) (hf : ∀ x, foldedSetIterable iter X.env x = pure x := by intro _; rfl) :
    SL X W (.ListComp elt [⟨tg, iter, ifs, 0⟩] scope pos) (wLc t wi wt we (own.map (·.2))) :=
  peI (pe_lc hc hN hi (blkOk_by ok) hg ht he hf) fun s H Q h => lc_of hs h
/-- y = [.. for ..], y a plain local name -/
theorem ps_lc (i : Nat) {y : Str} (hc : X.calm = true) (hN : X.N.Nodup) (hi : SI X W tg iter wi) (ok : blkC X.N X.env.scope scope own = true)
    (hg : ∀ (s : Shared) (H : Hp) (C : Addr) (cl : List (Str × Addr)) (fp : List Addr), SG (X.blk s H scope (compEnvC scope cl C X.env) fp) tg t)
    (ht : ∀ (s : Shared) (H : Hp) (C : Addr) (cl : List (Str × Addr)) (fp : List Addr), STs (X.blk s H scope (compEnvC scope cl C X.env) fp) ifs wt)
    (he : ∀ (s : Shared) (H : Hp) (C : Addr) (cl : List (Str × Addr)) (fp : List Addr), SE (X.blk s H scope (compEnvC scope cl C X.env) fp) W0 elt we)
    (hy : X.N[i]? = some y := by rfl) (hyl : X.env.scope.names.lookup y = some .local := by rfl)
    (hsw : swapsWith (.ListComp elt [⟨tg, iter, ifs, 0⟩] scope pos) (some (.Name y py)) spos.line X.env = pure true)
    (hs : ∀ i ∈ t.slots, i ∈ own.map (·.2) := by decide) (hf : ∀ x, foldedSetIterable iter X.env x = pure x := by intro _; rfl) :
    PS X (.Assign [.Name y py] (.ListComp elt [⟨tg, iter, ifs, 0⟩] scope pos) spos) (tAsg (tL X.K X.mg W (wLc t wi wt we (own.map (·.2)))) (gName i)) :=
  psI (ps_setLc hc hN hy hyl hsw hi (blkOk_by ok) hg ht he hf) fun Z s H h => lc_of hs h
theorem set_of {w : WE} {Z : Ends} {s : L2.St} {H : Hp} (i : Nat) (h : tS X.K X.mg W (wSet i w) Z s H) : tE X.K X.mg W w s H fun x H1 => Z.nx (s.set i (some x)) H1 := by
  obtain ⟨am, Hf, r, p, S, hw, g1, g2, g3, g4, g5⟩ := h
  exact ⟨am, Hf, r, _, p.ex, S, hw, fun y r1 am1 Hf1 H1 v p1 S1 rr q => g1 _ am1 Hf1 H1 _ p1 (S1.set i rr) q, g5.at⟩
theorem ss_lcD {st : Stmt} {w : WL} {i : Nat} (h : PS X st (tAsg (tL X.K X.mg W w) (gName i))) : SS X W st (wSet i (wDat w)) := psI h fun Z s H q => dat_of (X := X) (set_of i q)
theorem ss_lcL {st : Stmt} {w : WL} {i : Nat} (h : PS X st (tAsg (tL X.K X.mg W w) (gName i))) : SS X W st (wSet i (wLoc w)) := psI h fun Z s H q => loc_of (X := X) (set_of i q)
end

/-! ### several names at once -/
section
variable {X : Cx} {W : WX} {pos : Pos} {e : Expr} {es : List Expr} {we : WE} {wr : WA}
theorem ss_par3 (i j l : Nat) {x y z : Str} {a b c : Expr} {px py pz pt : Pos} {kt k2 pt2} (ha : SA X W [a, b, c] wr) (hc : X.calm = true) (hN : X.N.Nodup) (hi : X.N[i]? = some x := by rfl) (hj : X.N[j]? = some y := by rfl) (hl : X.N[l]? = some z := by rfl)
    (hij : i ≠ j := by decide) (hil : i ≠ l := by decide) (hjl : j ≠ l := by decide)
    (hx : X.env.scope.names.lookup x = some .local := by rfl) (hy : X.env.scope.names.lookup y = some .local := by rfl) (hz : X.env.scope.names.lookup z = some .local := by rfl)
    (hw : swappedStores [.Tuple [.Name x px, .Name y py, .Name z pz] kt pt] (.Tuple [a, b, c] k2 pt2) X.env = pure (some [x, y, z]) := by rfl)
    (hs : swapsWithSole [.Tuple [.Name x px, .Name y py, .Name z pz] kt pt] (.Tuple [a, b, c] k2 pt2) pos.line X.env = pure false := by rfl) :
    SS X W (.Assign [.Tuple [.Name x px, .Name y py, .Name z pz] kt pt] (.Tuple [a, b, c] k2 pt2) pos) (wPar [i, j, l] wr) := by
  refine psI (ps_par3 hc hN hi hj hl hij hil hjl hx hy hz ha hw hs) fun Z s H h => ?_
  obtain ⟨am, Hf, r, p, S, hw, g1, g2, g3, g4, g5⟩ := h
  refine ⟨am, Hf, r, _, p.ex, S, hw, fun ys r1 am1 Hf1 H1 vs p1 S1 rs q => ?_, g5.at⟩
  obtain ⟨r', S', hlen, q⟩ := putMany_ok S1 rs q
  match vs, hlen, S' with
  | [u, v, w], _, S' => exact ⟨u, v, w, rfl, g1 r' am1 Hf1 H1 _ p1 S' q⟩
/-- a tuple is made and taken apart: the names may hold lists of the store -/
theorem ss_parN {is : List Nat} {tg : Expr} {x1} {pt : Pos} (ha : SA X W es wr) (hg : PG X tg (gTup X.K is.length (gNs is))) (hz : is.length ≤ 1000 := by decide)
    (hs : swapsWithSole [tg] (.Tuple es x1 pt) pos.line X.env = pure false := by rfl) (hw : swappedStores [tg] (.Tuple es x1 pt) X.env = pure none := by rfl) (h1 : (assignEach [tg] X.env).map (·.2) = [assign tg X.env] := by rfl) :
    SS X W (.Assign [tg] (.Tuple es x1 pt) pos) (wPar is wr) := by
  refine psI (ps_asg (pe_tup ha) hg hs hw h1) fun Z s H h => ?_
  obtain ⟨am, Hf, r, p, S, hw, g1, g2, g3, g4, g5⟩ := h
  refine ⟨am, Hf, r, _, p.ex, S, hw, fun ys r1 am1 Hf1 H1 vs p1 S1 rs q => ?_, g5.at⟩
  obtain ⟨r', S', hl, q⟩ := putMany_ok S1 rs q
  refine ⟨by rw [← hl]; exact Nat.le_of_lt (small1000 hz), fun c hc => ?_⟩
  have g : Grow Hf1 H1 Hf1 (upd H1 c (.tup vs)) := .lost S1.le hc
  exact ⟨c, vs, rfl, Evl.st_of upd_same, hl.symm, gNs_of (vs := []) hl (g1 r' am1 Hf1 _ _ (p1.trans g.stp) (S'.grow g) q)⟩
/-- x, y, .. = e, e a tuple of data -/
def wUnp (is : List Nat) (we : WE) : WS := fun r p => we r (fun y r1 => match y with
  | .d d => asgT (.tp is) d r1 p.nx
  | _ => False) p.ex
theorem ss_unp {is : List Nat} {tg : Expr} (he : SE X W e we) (hg : SG X tg (.tp is)) (hs : swapsWithSole [tg] e pos.line X.env = pure false := by rfl) (hw : swappedStores [tg] e X.env = pure none := by rfl) (h1 : (assignEach [tg] X.env).map (·.2) = [assign tg X.env] := by rfl) :
    SS X W (.Assign [tg] e pos) (wUnp is we) := by
  refine psI (ps_asg he hg hs hw h1) fun Z s H h => ?_
  obtain ⟨am, Hf, r, p, S, hw, g1, g2, g3, g4, g5⟩ := h
  refine ⟨am, Hf, r, _, p.ex, S, hw, fun y r1 am1 Hf1 H1 v p1 S1 rr q => ?_, g5.at⟩
  cases y with
  | d d => exact gT_of S1 rr q fun s' r' S' _ q => g1 r' am1 Hf1 H1 s' p1 S' q
  | _ => exact q.elim
end
end Dl

/-! the data layer, part 7: += at a name, stores by place, defs, their calls, raise, the law's end -/
namespace Dl
open PySem
open PySem.Spec
open PyProof.Rows
open L2
open Evl (Ex)

def wAug (g : G2) (i : Nat) (we : WE) : WS := fun r p => wVar i r (fun a _ => we r (fun b r1 => dref a r1 fun da => dref b r1 fun db => g da db fun d => p.nx (r1.put i (.d d))) p.ex) p.ex
def wSetI (wo wi we : WE) : WS := fun r p => we r (fun y r1 => wo r1 (fun o r2 => wi r2 (fun i r3 => isL o fun n => isI i fun z => frz y r3 fun d r4 => lstAt r4 n fun cur => match ixN cur.length z with
  | some j => p.nx (stPut r4 n (cur.set j d))
  | none => False) p.ex) p.ex) p.ex
section
variable {X : Cx} {W : WX} {pos : Pos} {e o i : Expr} {we wo wi : WE}
theorem ss_aug (j : Nat) {x : Str} {op : Operator} {g : G2} {pos' : Pos} (hop : Op2 X (inplaceOp op) g) (he : SE X W e we) (hN : X.N.Nodup) (hi : X.N[j]? = some x := by rfl) (hx : Loc X.env.scope x := by first | exact Or.inl rfl | exact Or.inr rfl) (hf : X.fn x = true ∨ X.env.scope.names.lookup x = some .local := by first | exact .inl rfl | exact .inr rfl | assumption) : SS X W (.AugAssign (.Name x pos') op e pos) (wAug g j we) := by
  obtain ⟨ri, ho, hr⟩ := hop
  refine psI (ps_aug hN hi hx he ho hf) fun Z s H h => ?_
  obtain ⟨am, Hf, r, p, S, hw, g1, g2, g3, g4, g5⟩ := h
  unfold wAug wVar at hw
  cases ea : r.sl[j]? with
  | none => simp [ea] at hw
  | some oy =>
    cases oy with
    | none => simp [ea] at hw
    | some y =>
      simp only [ea] at hw
      obtain ⟨v, h1, h2⟩ := S.sl j y ea
      refine ⟨v, h1, am, Hf, r, _, p.ex, S, hw, fun yb r1 am1 Hf1 H1 vb p1 S1 rb q1 => ?_, g5.at⟩
      obtain ⟨da, rda, q3⟩ := dref_ok S1 (h2.mono p1) q1
      obtain ⟨db, rdb, q4⟩ := dref_ok S1 rb q3
      exact hr _ _ _ _ _ _ _ _ S1.le rda rdb q4 fun vz d Hf' H' gr rp q => g1 _ am1 Hf' H' _ (p1.trans gr.stp) ((S1.grow gr).set j (y := .d d) rp) q
theorem ss_setI {tp : Pos} (he : SE X W e we) (ho : SE X W o wo) (hi : SE X W i wi)
    (ha : ∀ v, assign (.Subscript o i tp) X.env v = (do
      let ov ← holding [v] (eval o X.env)
      let iv ← holding [v, ov] (eval i X.env)
      standAt tp
      holding [v, ov, iv] (setItem ov iv v)
      release [v, ov, iv] []) := by intro _; rfl)
    (hs : swapsWithSole [.Subscript o i tp] e pos.line X.env = pure false := by rfl) (hw : swappedStores [.Subscript o i tp] e X.env = pure none := by rfl) (h1 : (assignEach [.Subscript o i tp] X.env).map (·.2) = [assign (.Subscript o i tp) X.env] := by rfl) :
    SS X W (.Assign [.Subscript o i tp] e pos) (wSetI wo wi we) := by
  refine psI (ps_asg he (pg_sub ho hi set_list ha) hs hw h1) fun Z s H h => ?_
  obtain ⟨am, Hf, r, p, S, hw, g1, g2, g3, g4, g5⟩ := h
  refine ⟨am, Hf, r, _, p.ex, S, hw, fun y r1 am1 Hf1 H1 v p1 S1 rr q => ?_, g5.at⟩
  refine ⟨am1, Hf1, r1, _, p.ex, S1, q, fun yo r2 am2 Hf2 H2 vo p2 S2 ro q => ?_, (g5.next p1).at⟩
  refine ⟨am2, Hf2, r2, _, p.ex, S2, q, fun yi r3 am3 Hf3 H3 vi p3 S3 ri q => ?_, (g5.next (p1.trans p2)).at⟩
  obtain ⟨n, ad, rfl, had, q⟩ := isL_ok (ro.mono p3) q
  obtain ⟨z, rfl, q⟩ := isI_ok ri q
  obtain ⟨d, r4, Hf4, p4, S4, rd, q⟩ := frz_ok S3 ((rr.mono p2).mono p3) q
  obtain ⟨cur, ec, q⟩ := lstAt_ok q
  obtain ⟨_, xs, hx, hxr⟩ := S4.live n ad cur had ec
  cases ej : ixN cur.length z with
  | none =>
    rw [ej] at q
    exact q.elim
  | some j =>
    rw [ej] at q
    obtain ⟨p5, S5⟩ := S4.put had ec (hxr.set j rd)
    exact ⟨ad, xs, z, j, rfl, rfl, hx, by rw [hxr.length]; exact ej, g1 _ am3 Hf4 _ s ((((p1.trans p2).trans p3).trans p4).trans p5) S5 q⟩
end

/-! ### defs -/
abbrev FS := List R → Sto → (R → Sto → Prop) → (Exn → Sto → Prop) → Prop
def spD (K : PySem.W.Frag) (mg : Str → Option Value) (n : Nat) (G : FS) : Sp := fun vs H Q E => ∃ am Hf st ys k x, Sim K mg am Hf H [] ⟨[], st⟩ ∧ Paired (RelR K mg am Hf) vs ys ∧ ys.length = n ∧ G ys st k x ∧
  (∀ y st' am' Hf' H' v, Stp am Hf H am' Hf' H' → Sim K mg am' Hf' H' [] ⟨[], st'⟩ → RelR K mg am' Hf' v y → k y st' → Q v H') ∧
  (∀ e st' am' Hf' H' C d, Stp am Hf H am' Hf' H' → Sim K mg am' Hf' H' [] ⟨[], st'⟩ → ExR K mg H' e C d → x e st' → E C d H')
structure FnG (P : Program) (w : World) (K : PySem.W.Frag) (mg : Str → Option Value) (base : Heap) (k : Nat) (f : Addr) (fd : FuncData) (ps : List Str) (G : FS) : Prop where
  run : ∀ (A : Around) (outer : List PySem.Env) (s : Shared) (H : Hp) (args : Args) (us : List Value) (vs : List V) (Q : VK) (E : XK), Room k A → A.guards = some [] → Env0 P w K mg base A outer s H → BindsTo s fd args (ps.zip us) → Vals vs us →
    spD K mg ps.length G vs H Q E → codeAny (model P w) A (.call (.ref f) args) (CR (L2.CX P w) outer P w H s Q E) s
/-- what a def hands back: lists that it made and left are forgotten; one that it returns is the caller's -/
def fin (m : Nat) (y : R) (st : Sto) (k : R → Sto → Prop) : Prop := match y with
  | .l n => if n < m then k (.l n) (st.take m) else match st[n]? with
    | some (some ds) => k (.l m) (st.take m ++ [some ds])
    | _ => False
  | y => k y (st.take m)
def runF (n : Nat) (w : WS) : FS := fun ys st k x => w ⟨ys.map some ++ List.replicate (n - ys.length) none, st⟩
  ⟨fun r => k (.d .none) (r.st.take st.length), fun y r => fin st.length y r.st k, fun _ => False, fun _ => False, fun e r => x e (r.st.take st.length)⟩
section
variable {K : PySem.W.Frag} {mg : Str → Option Value} {am am0 : List Addr} {Hf H Hf0 H0 : Hp} {s : L2.St} {r : Env} {v : V} {y : R}
theorem Sim.noslots (S : Sim K mg am Hf H s r) : Sim K mg am Hf H [] ⟨[], r.st⟩ := ⟨S.le, S.len, S.nd, S.tr, S.live, fun i x h => by simp at h, rfl⟩
theorem Sim.reslot {st : Sto} (S0 : Sim K mg am0 Hf0 H0 s r) (p : Stp am0 Hf0 H0 am Hf H) (S : Sim K mg am Hf H [] ⟨[], st⟩) : Sim K mg am Hf H s ⟨r.sl, st⟩ :=
  ⟨S.le, S.len, S.nd, S.tr, S.live, fun i x h => by
    obtain ⟨v, h1, h2⟩ := S0.sl i x h
    exact ⟨v, h1, h2.mono p⟩, S0.sz⟩
theorem Stp.cut (p : Stp am0 Hf0 H0 am Hf H) : Stp am0 Hf0 H0 (am.take am0.length) Hf H ∧ am.take am0.length = am0 := by
  obtain ⟨t, e⟩ := p.pre
  have e2 : am.take am0.length = am0 := by rw [e, List.take_left]
  rw [e2]
  exact ⟨⟨⟨[], by simp⟩, fun _ h => .inl h, p.le, p.old, p.fz, p.kp⟩, rfl⟩
theorem Sim.cut (S : Sim K mg am Hf H s r) (m : Nat) : Sim K mg (am.take m) Hf H [] ⟨[], r.st.take m⟩ := by
  refine ⟨S.le, ?_, S.nd.sublist (List.take_sublist _ _), fun a ha => S.tr a (List.mem_of_mem_take ha), fun n a ds h1 h2 => ?_, fun i x h => by simp at h, rfl⟩
  · show (r.st.take m).length = (am.take m).length
    rw [List.length_take, List.length_take, S.len]
  · have h2' : (r.st.take m)[n]? = some (some ds) := h2
    have hn : n < m := by
      have := (List.getElem?_eq_some_iff.mp h1).1
      rw [List.length_take] at this
      omega
    rw [List.getElem?_take_of_lt hn] at h1 h2'
    exact S.live n a ds h1 h2'
theorem fin_ok {st0 : Sto} {k : R → Sto → Prop} {Q : VK} (hl : am0.length = st0.length) (p : Stp am0 Hf0 H0 am Hf H) (S : Sim K mg am Hf H s r) (rr : RelR K mg am Hf v y) (h : fin st0.length y r.st k)
    (hk : ∀ y st' am' Hf' H' v, Stp am0 Hf0 H0 am' Hf' H' → Sim K mg am' Hf' H' [] ⟨[], st'⟩ → RelR K mg am' Hf' v y → k y st' → Q v H') : Q v H := by
  obtain ⟨p1, e1⟩ := p.cut
  have S1 := S.cut am0.length
  cases y with
  | d x => exact hk (.d x) _ _ _ _ v p1 S1 rr (by rw [hl]; exact h)
  | o b => exact hk (.o b) _ _ _ _ v p1 S1 rr (by rw [hl]; exact h)
  | l n =>
    obtain ⟨a, rfl, ha⟩ := rr
    unfold fin at h
    dsimp only at h
    by_cases hn : n < st0.length
    · rw [if_pos hn] at h
      refine hk (.l n) _ _ _ _ _ p1 S1 ⟨a, rfl, ?_⟩ (by rw [hl]; exact h)
      rw [List.getElem?_take_of_lt (by omega)]
      exact ha
    · rw [if_neg hn] at h
      split at h
      · rename_i ds e
        obtain ⟨h0, xs, h2, h3⟩ := S.live n a ds ha e
        have hna : a ∉ am0 := fun hm => by
          obtain ⟨t, et⟩ := p.pre
          obtain ⟨i, hi⟩ := List.getElem?_of_mem hm
          have hi2 : am[i]? = some a := by
            rw [et, List.getElem?_append_left (List.getElem?_eq_some_iff.mp hi).1]
            exact hi
          have : i = n := nd_ix S.nd hi2 ha
          have := (List.getElem?_eq_some_iff.mp hi).1
          omega
        have hnew : H0 a = none := by
          rcases p.nw a (List.mem_of_getElem? ha) with z | z
          · exact absurd z hna
          · exact z
        have p2 : Stp am0 Hf0 H0 (am0 ++ [a]) Hf H := ⟨⟨[a], rfl⟩, fun b hb => by
          rcases List.mem_append.mp hb with hb | hb
          · exact .inl hb
          · rw [List.mem_singleton.mp hb]
            exact .inr hnew, p.le, p.old, p.fz, p.kp⟩
        rw [e1] at S1
        refine hk (.l st0.length) (r.st.take st0.length ++ [some ds]) (am0 ++ [a]) Hf H _ p2 ⟨S.le, ?_, ?_, fun b hb => ?_, fun m b es g1 g2 => ?_, fun i x h => by simp at h, rfl⟩ ⟨a, rfl, ?_⟩ h
        · have := S1.len
          show (r.st.take st0.length ++ [some ds]).length = (am0 ++ [a]).length
          have e3 : (r.st.take am0.length).length = am0.length := this
          rw [List.length_append, List.length_append, ← hl, e3]
          rfl
        · rw [List.nodup_append]
          refine ⟨S1.nd, by simp, fun b hb c hc => ?_⟩
          rw [List.mem_singleton.mp hc]
          intro z
          exact hna (z ▸ hb)
        · rcases List.mem_append.mp hb with hb | hb
          · exact S1.tr b hb
          · rw [List.mem_singleton.mp hb, h2]
            simp
        · have g2' : (r.st.take st0.length ++ [some ds])[m]? = some (some es) := g2
          have e3 : (r.st.take st0.length).length = am0.length := by
            rw [← hl]
            exact S1.len
          by_cases hm : m < am0.length
          · rw [List.getElem?_append_left hm] at g1
            rw [List.getElem?_append_left (by rw [e3]; exact hm)] at g2'
            rw [← hl] at g2'
            exact S1.live m b es g1 g2'
          · have hm2 : m < (am0 ++ [a]).length := (List.getElem?_eq_some_iff.mp g1).1
            rw [List.length_append] at hm2
            have hm3 : m = am0.length := by
              have : [a].length = 1 := rfl
              omega
            rw [hm3, List.getElem?_append_right (Nat.le_refl _), Nat.sub_self] at g1
            rw [hm3, List.getElem?_append_right (by omega), e3, Nat.sub_self] at g2'
            have ea : a = b := by simpa using g1
            have ed : ds = es := by simpa using g2'
            rw [← ea, ← ed]
            exact ⟨h0, xs, h2, h3⟩
        · rw [← hl, List.getElem?_append_right (Nat.le_refl _), Nat.sub_self]
          rfl
      · exact h.elim
end
section
variable {P : Program} {w : World} {K : PySem.W.Frag} {mg : Str → Option Value} {base : Heap}
theorem guards_deeper (A : Around) (env : PySem.Env) : (A.deeper env).guards = A.guards := rfl
/-- a def by its body -/
theorem fnG_of {x qual : Str} {st : Stmt} {f : Addr} {fd : FuncData} {N ps : List Str} {k : Nat} {ws : WS} (F : Fun K x qual st f fd) (S : FnScope N ps (defScope st))
    (hbody : ∀ (cdv : Value) (A : Around) (outer : List PySem.Env) (s : Shared) (H : Hp) (E : XK), Room k (A.deeper (envOfC qual (defScope st) s.heap.objs.size f cdv)) → A.guards = some [] →
      SB (cxOf (L2.CX P w) P w K mg base N qual (defScope st) f cdv A outer s H E) (fun C d _ H => E C d H) (defBody st) ws) : FnG P w K mg base (k + 1) f fd ps (runF N.length ws) := by
  obtain ⟨oc, od, kV, doc, pm, an, cdv, ct, osl, rfl, lk, hcd⟩ := F.ex
  refine ⟨fun A outer s H args us vs Q E hr hgd e0 hb r hsp => ?_⟩
  obtain ⟨am, Hf, st0, ys, kk, xx, S0, rs, hlen, hG, hk, hx⟩ := hsp
  have hl : vs.length = ps.length := (pairLen rs).trans hlen
  have KX : K.In s.heap := e0.mod.kin.keeps fun b o e => (e0.bs b o e).1
  have lim : s.heap.NoLimit := e0.mod.nolimit.keeps fun b o e => (e0.bs b o e).1
  have hkind : ∀ y ∈ ps.zip us, (defScope st).names.lookup y.1 = some .local ∨ ((defScope st).names.lookup y.1 = some .cell ∧ ((cellsFrom (s.heap.objs.size + 1) (defScope st).names []).lookup y.1).isSome = true) := fun ⟨n, v⟩ hy =>
    (S.par n (List.of_mem_zip hy).1).elim .inl fun q => .inr ⟨q, PySem.W.cellsFrom_some _ _ _ (.inl q)⟩
  refine codeAny_call_function hr.depth (KX _ _ lk) rfl S.co S.gen rfl (PySem.W.codeRec_of KX hcd) (hb _ _ _ _ (wpAny_newFunctionEnv_cells S.kind hkind fun env he s1 ic => ?_))
  subst he
  have J0 : Inv (cxOf (L2.CX P w) P w K mg base N qual (defScope st) f cdv A outer s H E) [] (L2.start N vs) H s1 := inv_start S hr.hd e0 hl r ic
  have T := (hbody cdv A outer s H E (hr.deeper _) hgd).run [] s1 (L2.start N vs) H { nx := fun _ H' => Q .non H', rt := Q } J0
  have lenS : am.length = st0.length := S0.len.symm
  have hys : ys.length = vs.length := (pairLen rs).symm
  have Sst : Sim K mg am Hf H (L2.start N vs) ⟨ys.map some ++ List.replicate (N.length - ys.length) none, st0⟩ := by
    refine ⟨S0.le, S0.len, S0.nd, S0.tr, S0.live, fun i z h => ?_, ?_⟩
    · have h' : (ys.map some ++ List.replicate (N.length - ys.length) none)[i]? = some (some z) := h
      by_cases hi : i < ys.length
      · rw [List.getElem?_append_left (by rw [List.length_map]; exact hi), List.getElem?_map] at h'
        cases e : ys[i]? with
        | none =>
          rw [e] at h'
          cases h'
        | some y =>
          rw [e] at h'
          have ey : y = z := by simpa using h'
          rw [← ey]
          have go : ∀ {vs : List V} {ys : List R} {i : Nat} {y : R}, Paired (RelR K mg am Hf) vs ys → ys[i]? = some y → ∃ v, vs[i]? = some v ∧ RelR K mg am Hf v y := by
            intro vs ys i y r
            induction r generalizing i with
            | nil => intro e; cases e
            | cons h t ih =>
              intro e
              cases i with
              | zero =>
                cases e
                exact ⟨_, rfl, h⟩
              | succ i => exact ih (i := i) e
          obtain ⟨v, h1, h2⟩ := go rs e
          refine ⟨v, ?_, h2⟩
          unfold L2.start
          rw [List.getElem?_append_left (by rw [List.length_map]; omega), List.getElem?_map, h1]
          rfl
      · rw [List.getElem?_append_right (by rw [List.length_map]; omega), List.getElem?_replicate] at h'
        split at h' <;> cases h'
    · show (ys.map some ++ List.replicate (N.length - ys.length) none).length = (L2.start N vs).length
      unfold L2.start
      simp only [List.length_append, List.length_map, List.length_replicate]
      omega
  have R0 := T ⟨am, Hf, _, _, Sst, hG, fun r' am' Hf' H' s' p S' q => by
      obtain ⟨p1, _⟩ := p.cut
      refine hk (.d .none) _ _ _ _ _ p1 (S'.cut am.length) Rp.non ?_
      rw [lenS]
      exact q, fun y r' am' Hf' H' s' v p S' rr q => fin_ok lenS p S' rr q hk, fun _ _ _ _ _ _ _ q => q.elim, fun _ _ _ _ _ _ _ q => q.elim, fun e r' am' Hf' H' s' C d p S' er q => by
      obtain ⟨p1, _⟩ := p.cut
      refine hx e _ _ _ _ _ _ p1 (S'.cut am.length) er ?_
      rw [lenS]
      exact q⟩
  refine ⟨lim.keeps ic.toInCall.keep, codeAny_func (wpAny_mono R0 (fun fl s' hs => ?_) fun e s' hs => hs)⟩
  cases fl with
  | ret u =>
    obtain ⟨v, σ', H', J, rv, q⟩ := hs
    exact ⟨v, H', J.os, J.bare, J.base, J.hok, rv, q⟩
  | next =>
    obtain ⟨σ', H', J, q⟩ := hs
    exact ⟨V.non, H', J.os, J.bare, J.base, J.hok, rfl, q⟩
  | brk =>
    obtain ⟨_, _, _, q⟩ := hs
    exact q.elim
  | cont =>
    obtain ⟨_, _, _, q⟩ := hs
    exact q.elim
theorem FnG.mono {j k : Nat} {f : Addr} {fd : FuncData} {ps : List Str} {G : FS} (F : FnG P w K mg base j f fd ps G) (h : j ≤ k) : FnG P w K mg base k f fd ps G := ⟨fun A outer s H args us vs Q E hr => F.run A outer s H args us vs Q E (hr.mono h)⟩
end

/-! ### calls of defs -/
def wCall (n : Nat) (G : FS) (wr : WA) : WE := fun r k x => wr r (fun ys r1 => ys.length = n ∧ G ys r1.st (fun y st' => k y ⟨r1.sl, st'⟩) (fun e st' => x e ⟨r1.sl, st'⟩)) x
/-- keywords: the values in the parameters' order -/
def pick {α : Type} (o : List Nat) (l : List α) : List α := o.filterMap fun i => l[i]?
def wCallK (n : Nat) (G : FS) (o : List Nat) (wr wk : WA) : WE := fun r k x => wr r (fun ys r1 => wk r1 (fun zs r2 => (pick o (ys ++ zs)).length = n ∧ G (pick o (ys ++ zs)) r2.st (fun y st' => k y ⟨r2.sl, st'⟩) (fun e st' => x e ⟨r2.sl, st'⟩)) x) x
theorem pick_pair {α β : Type} {F : α → β → Prop} {xs : List α} {ys : List β} (h : Paired F xs ys) (o : List Nat) : Paired F (pick o xs) (pick o ys) := by
  have at_ : ∀ {xs : List α} {ys : List β}, Paired F xs ys → ∀ i : Nat, (xs[i]? = none ∧ ys[i]? = none) ∨ ∃ a b, xs[i]? = some a ∧ ys[i]? = some b ∧ F a b := by
    intro xs ys h
    induction h with
    | nil => intro i; exact .inl ⟨by simp, by simp⟩
    | cons h t ih =>
      intro i
      cases i with
      | zero => exact .inr ⟨_, _, rfl, rfl, h⟩
      | succ i => exact ih i
  induction o with
  | nil => exact .nil
  | cons i o ih =>
    unfold pick at ih ⊢
    rcases at_ h i with ⟨h1, h2⟩ | ⟨a, b, h1, h2, hf⟩
    · rw [List.filterMap_cons_none h1, List.filterMap_cons_none h2]
      exact ih
    · rw [List.filterMap_cons_some h1, List.filterMap_cons_some h2]
      exact .cons hf ih
/-- how a call with n positional values and keywords ks binds -/
def KB (K : PySem.W.Frag) (fd : FuncData) (ps : List Str) (n : Nat) (ks : List Str) (o : List Nat) : Prop := ∀ (s : Shared) (us ws : List Value), K.In s.heap → us.length = n → ws.length = ks.length → BindsTo s fd ⟨us, ks.zip ws⟩ (ps.zip (pick o (us ++ ws)))
abbrev SK (X : Cx) (W : WX) (kws : List Keyword) (w : WA) : Prop := PK X kws (tA X.K X.mg W w)
theorem pkI {X : Cx} {kws : List Keyword} {t t' : TA} (h : PK X kws t) (i : ∀ s H Q, t' s H Q → t s H Q) : PK X kws t' := ⟨fun p pins s σ H Q I q => h.run p pins s σ H Q I (i _ _ _ q)⟩
section
variable {X : Cx} {W : WX} {k : Nat} {f : Addr} {fd : FuncData} {ps ks : List Str} {G : FS} {x : Str} {p pos kpos : Pos} {e : Expr} {es : List Expr} {kws : List Keyword} {wr wk : WA} {we : WE} {nm : Option Str}
theorem sk_nil : SK X W [] wNil := by
  refine pkI pk_nil fun s H Q h => ?_
  obtain ⟨am, Hf, r, k, x, S, hw, hk, hx⟩ := h
  exact hk [] r am Hf H [] .refl S .nil hw
theorem sk_cons (ha : SE X W e we) (hr : SK X W kws wr) : SK X W (⟨nm, e, kpos⟩ :: kws) (wCons we wr) := by
  refine pkI (pk_cons ha hr) fun s H Q h => ?_
  obtain ⟨am, Hf, r, k, x, S, hw, hk, hx⟩ := h
  refine ⟨am, Hf, r, _, x, S, hw, fun y r1 am1 Hf1 H1 v p1 S1 rr q => ?_, hx⟩
  refine ⟨am1, Hf1, r1, _, x, S1, q, fun ys r2 am2 Hf2 H2 vs p2 S2 rs q2 => ?_, hx.next p1⟩
  exact hk (y :: ys) r2 am2 Hf2 H2 (v :: vs) (p1.trans p2) S2 (.cons (rr.mono p2) rs) q2
/-- the callee runs -/
theorem run_G {pins : List (Addr × Obj)} {σ : L2.St} {s : Shared} {H : Hp} {am : List Addr} {Hf : Hp} {r : Env} {vs : List V} {ys : List R} {args : Args} {us : List Value} {kk : KE} {xx : XQ} {Q : VK} (F : FnG X.prog X.w X.K X.mg X.base k f fd ps G) (hr : Room k X.A) (hgd : X.A.guards = some []) (tk : Takes X W)
    (I : Inv X pins σ H s) (S : Sim X.K X.mg am Hf H σ r) (rv : Vals vs us) (rs : Paired (RelR X.K X.mg am Hf) vs ys) (hb : BindsTo s fd args (ps.zip us)) (hl : ys.length = ps.length)
    (h : G ys r.st (fun y st' => kk y ⟨r.sl, st'⟩) (fun e st' => xx e ⟨r.sl, st'⟩))
    (hk : ∀ y r' am' Hf' H' v, Stp am Hf H am' Hf' H' → Sim X.K X.mg am' Hf' H' σ r' → RelR X.K X.mg am' Hf' v y → kk y r' → Q v H') (hx : XC X.K X.mg W xx am Hf H σ) :
    codeAny (model X.prog X.w) X.A (.call (.ref f) args) (fun rr s' => match rr with
      | .ok (.ret u) => EP X pins σ Q u s'
      | .ok _ => False
      | .error e => X.xe e s') s := by
  refine codeAny_mono (F.run X.A X.stack s H args us vs Q (fun C d H' => W C d σ H') hr hgd I.env0 hb rv ⟨am, Hf, r.st, ys, _, _, S.noslots, rs, hl, h, fun y st' am' Hf' H' v p S' rr q => hk y _ am' Hf' H' v p (S.reslot p S') rr q, fun e st' am' Hf' H' C d p S' er q => hx e _ am' Hf' H' σ C d p (S.reslot p S') rfl er q⟩) fun rr s' hq => ?_
  cases rr with
  | error e => exact passAt tk σ pins H s e s' I hq
  | ok fl =>
    cases fl with
    | ret u => exact I.after hq
    | next => exact False.elim hq
    | brk => exact False.elim hq
    | cont => exact False.elim hq
theorem se_call (F : FnG X.prog X.w X.K X.mg X.base k f fd ps G) (hr : Room k X.A) (hgd : X.A.guards = some []) (tk : Takes X W) (hm : X.mg x = some (.ref f)) (hkp : PySem.W.keepIn X.K (.ref f) = true) (hb : Binds X.K fd ps []) (ha : SA X W (e :: es) wr) (hg : Gl X x := by rfl)
    (hdb : (x == ("__debug__" : Str)) = false := by decide) (he : starEach (e :: es) X.env = (false, eval e X.env) :: starEach es X.env := by rfl) (hpl : (backTo pos (starEach es X.env)).any (·.1) = false := by rfl) :
    SE X W (.Call (.Name x p) (e :: es) [] pos) (wCall ps.length G wr) := by
  refine ⟨fun pins s σ H Q I h => ?_⟩
  obtain ⟨am, Hf, r, kk, xx, S, hw, hk, hx⟩ := h
  refine wpAny_Call_Name_kw (ld_glob I hg hm ?_ hdb)
  refine PySem.W.callWith_K (h₀ := X.base) I.ok.mod.kin hkp (thn (ha.run pos pins s σ H (fun vs H1 => ∃ ys r1 am1 Hf1, Stp am Hf H am1 Hf1 H1 ∧ Sim X.K X.mg am1 Hf1 H1 σ r1 ∧ Paired (RelR X.K X.mg am1 Hf1) vs ys ∧ ys.length = ps.length ∧ G ys r1.st (fun y st' => kk y ⟨r1.sl, st'⟩) (fun e st' => xx e ⟨r1.sl, st'⟩)) I
    ⟨am, Hf, r, _, xx, S, hw, fun ys r1 am1 Hf1 H1 vs p1 S1 rs q => ⟨ys, r1, am1, Hf1, p1, S1, rs, q⟩, hx⟩) fun us s1 ⟨vs, H1, I1, rv, ys, r1, am1, Hf1, p1, S1, rs, hl, q⟩ => ⟨I1.kIn, ?_⟩) he hpl
  have hlu : (us ++ []).length = ps.length := by rw [List.append_nil, ← rv.length, pairLen rs, hl]
  have hbb := hb s1 us I1.kIn hlu
  rw [List.append_nil] at hbb
  refine wpAny_call (codeAny_mono (run_G F hr hgd tk I1 S1 rv rs hbb hl q (fun y r' am' Hf' H' v p S' rr q => hk y r' am' Hf' H' v (p1.trans p) S' rr q) (hx.next p1)) fun rr s' hq => ?_)
  cases rr with
  | error e => exact hq
  | ok fl =>
    cases fl with
    | ret u => exact hq
    | next => exact False.elim hq
    | brk => exact False.elim hq
    | cont => exact False.elim hq
theorem se_call0 (F : FnG X.prog X.w X.K X.mg X.base k f fd ps G) (hr : Room k X.A) (hgd : X.A.guards = some []) (tk : Takes X W) (hm : X.mg x = some (.ref f)) (hkp : PySem.W.keepIn X.K (.ref f) = true) (hb : Binds X.K fd ps []) (h0 : ps = []) (hg : Gl X x := by rfl)
    (hdb : (x == ("__debug__" : Str)) = false := by decide) : SE X W (.Call (.Name x p) [] [] pos) (wCall ps.length G wNil) := by
  refine ⟨fun pins s σ H Q I h => ?_⟩
  obtain ⟨am, Hf, r, kk, xx, S, ⟨hl, hw⟩, hk, hx⟩ := h
  refine wpAny_Call_Name_kw (ld_glob I hg hm ?_ hdb)
  refine PySem.W.callWith_K0 I.kIn hkp ?_
  have hbb := hb s [] I.kIn (by rw [h0]; rfl)
  refine wpAny_call (codeAny_mono (run_G F hr hgd tk I S .nil .nil hbb (by rw [h0]; rfl) hw (fun y r' am' Hf' H' v p S' rr q => hk y r' am' Hf' H' v p S' rr q) hx) fun rr s' hq => ?_)
  cases rr with
  | error e => exact hq
  | ok fl =>
    cases fl with
    | ret u => exact hq
    | next => exact False.elim hq
    | brk => exact False.elim hq
    | cont => exact False.elim hq
end
end Dl

/-! the data layer, part 8: calls by keywords, raise, the law's end -/
namespace Dl
open PySem
open PySem.Spec
open PyProof.Rows
open L2
open Evl (Ex)
section
variable {X : Cx} {W : WX} {k : Nat} {f : Addr} {fd : FuncData} {ps ks : List Str} {G : FS} {x : Str} {p pos kpos : Pos} {e : Expr} {es : List Expr} {kws : List Keyword} {wr wk : WA} {we : WE} {o : List Nat}
theorem se_callK (n : Nat) (F : FnG X.prog X.w X.K X.mg X.base k f fd ps G) (hr : Room k X.A) (hgd : X.A.guards = some []) (tk : Takes X W) (hm : X.mg x = some (.ref f)) (hkp : PySem.W.keepIn X.K (.ref f) = true) (hb : KB X.K fd ps n ks o)
    (ha : SA X W (e :: es) wr) (hw : SK X W kws wk) (hn : (e :: es).length = n := by rfl) (hg : Gl X x := by rfl)
    (hall : (backToKw pos (keywordEach kws X.env)).all (·.1.isSome) = true := by rfl) (hks : (backToKw pos (keywordEach kws X.env)).filterMap (·.1) = ks := by rfl)
    (hdb : (x == ("__debug__" : Str)) = false := by decide) (he : starEach (e :: es) X.env = (false, eval e X.env) :: starEach es X.env := by rfl)
    (hpl : ((backTo pos (starEach (e :: es) X.env)).any (·.1) || (backToKw pos (keywordEach kws X.env)).any (·.1.isNone)) = false := by rfl)
    (hla : ∀ vs us, Vals vs us → wr = wr → True := by intro _ _ _ _; trivial) : SE X W (.Call (.Name x p) (e :: es) kws pos) (fun r kk xx => wCallK ps.length G o (fun r k x => wr r (fun ys r1 => ys.length = n ∧ k ys r1) x) (fun r k x => wk r (fun zs r1 => zs.length = ks.length ∧ k zs r1) x) r kk xx) := by
  refine ⟨fun pins s σ H Q I h => ?_⟩
  obtain ⟨am, Hf, r, kk, xx, S, hww, hk, hx⟩ := h
  refine wpAny_Call_Name_kw (ld_glob I hg hm ?_ hdb)
  refine PySem.W.callWith_KW (h₀ := X.base) I.ok.mod.kin hkp hall (thn (ha.run pos pins s σ H (fun vs H1 => ∃ ys r1 am1 Hf1, Stp am Hf H am1 Hf1 H1 ∧ Sim X.K X.mg am1 Hf1 H1 σ r1 ∧ Paired (RelR X.K X.mg am1 Hf1) vs ys ∧ ys.length = n ∧
    wk r1 (fun zs r2 => zs.length = ks.length ∧ (pick o (ys ++ zs)).length = ps.length ∧ G (pick o (ys ++ zs)) r2.st (fun y st' => kk y ⟨r2.sl, st'⟩) (fun e st' => xx e ⟨r2.sl, st'⟩)) xx) I
    ⟨am, Hf, r, _, xx, S, hww, fun ys r1 am1 Hf1 H1 vs p1 S1 rs q => ⟨ys, r1, am1, Hf1, p1, S1, rs, q⟩, hx⟩) fun us s1 ⟨vs, H1, I1, rv, ys, r1, am1, Hf1, p1, S1, rs, hl, q⟩ => ?_) hpl he
  refine thn (hw.run pos pins s1 σ H1 (fun vs2 H2 => ∃ zs r2 am2 Hf2, Stp am1 Hf1 H1 am2 Hf2 H2 ∧ Sim X.K X.mg am2 Hf2 H2 σ r2 ∧ Paired (RelR X.K X.mg am2 Hf2) vs2 zs ∧ zs.length = ks.length ∧ (pick o (ys ++ zs)).length = ps.length ∧ G (pick o (ys ++ zs)) r2.st (fun y st' => kk y ⟨r2.sl, st'⟩) (fun e st' => xx e ⟨r2.sl, st'⟩)) I1
    ⟨am1, Hf1, r1, _, xx, S1, q, fun zs r2 am2 Hf2 H2 vs2 p2 S2 rs2 q => ⟨zs, r2, am2, Hf2, p2, S2, rs2, q⟩, hx.next p1⟩) fun ws s2 ⟨vs2, H2, I2, rw2, zs, r2, am2, Hf2, p2, S2, rs2, hl2, hl3, q⟩ => ⟨I2.kIn, ?_⟩
  rw [hks]
  have rall : Paired (RelR X.K X.mg am2 Hf2) (vs ++ vs2) (ys ++ zs) := by
    have go : ∀ {a b : List V} {c d : List R}, Paired (RelR X.K X.mg am2 Hf2) a c → Paired (RelR X.K X.mg am2 Hf2) b d → Paired (RelR X.K X.mg am2 Hf2) (a ++ b) (c ++ d) := by
      intro a b c d h1 h2
      induction h1 with
      | nil => exact h2
      | cons h t ih => exact .cons h ih
    exact go (PairR.mono p2 rs) rs2
  have hb2 := hb s2 us ws I2.kIn (by rw [← rv.length, pairLen rs, hl]) (by rw [← rw2.length, pairLen rs2, hl2])
  refine wpAny_call (codeAny_mono (run_G (args := ⟨us, ks.zip ws⟩) F hr hgd tk I2 S2 (pick_pair (rv.append rw2) o) (pick_pair rall o) hb2 hl3 q (fun y r' am' Hf' H' v p S' rr q => hk y r' am' Hf' H' v ((p1.trans p2).trans p) S' rr q) (hx.next (p1.trans p2))) fun rr s' hq => ?_)
  cases rr with
  | error e => exact hq
  | ok fl =>
    cases fl with
    | ret u => exact hq
    | next => exact False.elim hq
    | brk => exact False.elim hq
    | cont => exact False.elim hq
/-- keywords alone -/
def wCallK0 (n m : Nat) (G : FS) (o : List Nat) (wk : WA) : WE := fun r k x => wk r (fun zs r2 => zs.length = m ∧ (pick o zs).length = n ∧ G (pick o zs) r2.st (fun y st' => k y ⟨r2.sl, st'⟩) (fun e st' => x e ⟨r2.sl, st'⟩)) x
theorem se_callK0 (F : FnG X.prog X.w X.K X.mg X.base k f fd ps G) (hr : Room k X.A) (hgd : X.A.guards = some []) (tk : Takes X W) (hm : X.mg x = some (.ref f)) (hkp : PySem.W.keepIn X.K (.ref f) = true) (hb : KB X.K fd ps 0 ks o)
    (hw : SK X W kws wk) (hg : Gl X x := by rfl)
    (hall : (backToKw pos (keywordEach kws X.env)).all (·.1.isSome) = true := by rfl) (hks : (backToKw pos (keywordEach kws X.env)).filterMap (·.1) = ks := by rfl)
    (hdb : (x == ("__debug__" : Str)) = false := by decide) (hpl : ((backTo pos (starEach [] X.env)).any (·.1) || (backToKw pos (keywordEach kws X.env)).any (·.1.isNone)) = false := by rfl) :
    SE X W (.Call (.Name x p) [] kws pos) (wCallK0 ps.length ks.length G o wk) := by
  refine ⟨fun pins s σ H Q I h => ?_⟩
  obtain ⟨am, Hf, r, kk, xx, S, hww, hk, hx⟩ := h
  refine wpAny_Call_Name_kw (ld_glob I hg hm ?_ hdb)
  refine PySem.W.callWith_KW0 (h₀ := X.base) I.ok.mod.kin hkp hall (thn (hw.run pos pins s σ H (fun vs2 H2 => ∃ zs r2 am2 Hf2, Stp am Hf H am2 Hf2 H2 ∧ Sim X.K X.mg am2 Hf2 H2 σ r2 ∧ Paired (RelR X.K X.mg am2 Hf2) vs2 zs ∧ zs.length = ks.length ∧ (pick o zs).length = ps.length ∧ G (pick o zs) r2.st (fun y st' => kk y ⟨r2.sl, st'⟩) (fun e st' => xx e ⟨r2.sl, st'⟩)) I
    ⟨am, Hf, r, _, xx, S, hww, fun zs r2 am2 Hf2 H2 vs2 p2 S2 rs2 q => ⟨zs, r2, am2, Hf2, p2, S2, rs2, q⟩, hx⟩) fun ws s2 ⟨vs2, H2, I2, rw2, zs, r2, am2, Hf2, p2, S2, rs2, hl2, hl3, q⟩ => ⟨I2.kIn, ?_⟩) hpl
  rw [hks]
  have hb2 := hb s2 [] ws I2.kIn rfl (by rw [← rw2.length, pairLen rs2, hl2])
  refine wpAny_call (codeAny_mono (run_G (args := ⟨[], ks.zip ws⟩) F hr hgd tk I2 S2 (pick_pair rw2 o) (pick_pair rs2 o) hb2 hl3 q (fun y r' am' Hf' H' v p S' rr q => hk y r' am' Hf' H' v (p2.trans p) S' rr q) (hx.next p2)) fun rr s' hq => ?_)
  cases rr with
  | error e => exact hq
  | ok fl =>
    cases fl with
    | ret u => exact hq
    | next => exact False.elim hq
    | brk => exact False.elim hq
    | cont => exact False.elim hq

/-! ### raise X(), X without an __init__ of its own -/
theorem pmk_own0 {C : Addr} {bmB : List Value} {B newId initId : String} (F : ExcBaseFacts B newId initId bmB) (q : PySem.W.excIn X.K C bmB newId = true) (gC : X.mg x = some (.ref C)) (kC : PySem.W.keepIn X.K (.ref C) = true) (r : Raises X (.ref C)) (hg : Gl X x)
    (hdb : (x == ("__debug__" : Str)) = false := by decide) : PMk X (.Call (.Name x p) [] [] pos) (fun _ H Q => Q (.ref C) none H) := by
  intro pins s σ H Q I h
  refine wpAny_Call_Name_kw (ld_glob I hg gC (PySem.W.callWith_K0 I.kIn kC ?_) hdb)
  show wpAny _ _ (call (.ref C) []) _ _ _
  obtain ⟨bm, N, nm, qn, bs, hdct, sn, sub, ab, col, dd, k0, k1, k2, k3, k5, mN, hC, hN, hni, T⟩ := exc_obj I.kIn q
  exact wpAny_call_exc_subT F T hC hN hni (fun h' e hm => mk_of I hm r h (I.hok.gone hm.new)) (Nat.zero_le _)
def wRaise (cn : Str) : WS := fun r p => p.ex ⟨cn, []⟩ r
theorem ss_raise0 {C : Addr} {bmB : List Value} {B newId initId : String} {pos2 : Pos} (F : ExcBaseFacts B newId initId bmB) (q : PySem.W.excIn X.K C bmB newId = true) (gC : X.mg x = some (.ref C)) (kC : PySem.W.keepIn X.K (.ref C) = true)
    (r1 : PySem.W.subIn X.K (.ref C) (.type "BaseException") = some true) (r2 : PySem.W.typeIn X.K (.ref C) = some (.type "type")) (tk : Takes X W) (hc : X.calm = true := by rfl) (hg : Gl X x := by rfl) (hdb : (x == ("__debug__" : Str)) = false := by decide) :
    SS X W (.Raise (some (.Call (.Name x p) [] [] pos)) none pos2) (wRaise x) := by
  refine psI (ps_raise hc tk (pmk_own0 F q gC kC (raises_own r1 r2) hg hdb)) fun Z s H h => ?_
  obtain ⟨am, Hf, r, p, S, hw, g1, g2, g3, g4, g5⟩ := h
  exact g5 ⟨x, []⟩ r am Hf H s _ _ .refl S ⟨C, gC, rfl, .inl ⟨rfl, rfl⟩⟩ hw
end

/-! ### the law's end -/
/-- the heap behind the top, with the script known to the object (or an object of the module) -/
theorem law_go {P : Program} {w : World} {K : PySem.W.Frag} {mg mb : Str → Option Value} {k : Nat} {fa a : Addr} {fd : FuncData} {sc : Str} {G : FS} {z : Shared} {vs : List Value} {ns : List Int}
    (KX : K.In z.heap) (hns : z.heap.Ns mainGlobals mg) (hb : z.heap.Ns builtinsNs mb) (hbb : ∀ n : Str, n ≠ "__name__" → mb n = bootBuiltins n) (hlim : z.heap.NoLimit) (hgen : z.gens = #[])
    (ha : z.heap.get? a = some { cls := .type "list", data := .seq vs.toArray }) (hi : IntsAre vs ns) (hl : ns.length ≤ sizeLine) (hr : Room k callerA)
    (F : ∀ base : Heap, K.In base → base.Ns mainGlobals mg → FnG P w K mg base k fa fd [sc] G) (hbind : ∀ (s : Shared) (u : Value), BindsTo s fd ⟨[u], []⟩ [(sc, u)])
    (hG : G [.o (.scr ns)] [] (fun y _ => y = .d (.bool true)) (fun _ _ => False)) :
    codeAny (model P w) callerA (.call (.ref fa) ⟨[.ref a], []⟩) (fun r s' => r = .ok (.ret (.bool true)) ∧ OldK z.heap s'.heap ∧ s'.os = z.os ∧ AllBare s'.gens) z := by
  have rv := vals_ints hi
  have go : ∀ H : Hp, (∀ b o, H b = some o → b = a ∧ o = .frz { cls := .type "list", data := .seq vs.toArray } (.lst (ns.map V.int)) ∧ K.lookup a = none) → SqL K H a (ns.map V.int) → HOk P w H z.heap →
      codeAny (model P w) callerA (.call (.ref fa) ⟨[.ref a], []⟩) (fun r s' => r = .ok (.ret (.bool true)) ∧ OldK z.heap s'.heap ∧ s'.os = z.os ∧ AllBare s'.gens) z := by
    intro H hH hS hok
    have off : ∀ {b : Addr} {o : Obj}, z.heap.get? b = some o → (∀ n, o.data ≠ .seq vs.toArray n) → H b = none := fun {b o} e d => by
      cases q : H b with
      | none => rfl
      | some u =>
        obtain ⟨e1, _⟩ := hH b u q
        rw [e1, ha] at e
        cases e
        exact absurd rfl (d _)
    have ns' : ∀ {b : Addr} {m : Str → Option Value}, z.heap.Ns b m → (hidT z.heap H).Ns b m := fun ⟨o, es, ep, e, d, r⟩ => ⟨o, es, ep, hidT_get e (off e fun n q => by rw [d] at q; cases q), d, r⟩
    have kin : K.In (hidT z.heap H) := fun b o e => hidT_get (KX b o e) (by
      cases q : H b with
      | none => rfl
      | some u =>
        obtain ⟨e1, _, e3⟩ := hH b u q
        rw [e1, e3] at e
        cases e)
    obtain ⟨mc, c1, c2⟩ := hlim
    have E0 : Env0 P w K mg (hidT z.heap H) callerA [] z H := ⟨rfl, ⟨kin, ns' hns, ⟨mb, ns' hb, hbb⟩, ⟨mc, ns' c1, c2⟩⟩, fun b o e => of_hidT e, Nat.le_of_eq (hidT_size _ _), trivial, fun b q => (by cases q), hok, .of_eq hgen⟩
    have S0 : Sim K mg [] H H [] ⟨[], []⟩ := ⟨Evl.Ex.refl _, rfl, List.nodup_nil, fun b q => (by cases q), fun n b ds q => (by simp at q), fun i x q => (by simp at q), rfl⟩
    refine codeAny_mono ((F _ kin (ns' hns)).run callerA [] z H ⟨[.ref a], []⟩ [.ref a] [.ref a] (fun v _ => v = .bl true) (fun _ _ _ => False) hr rfl E0 (hbind z (.ref a)) (.cons rfl .nil)
      ⟨[], H, [], [.o (.scr ns)], _, _, S0, .cons ⟨a, rfl, hS⟩ .nil, rfl, hG, fun y st' am' Hf' H' v _ _ rr e => by
        subst e
        cases rr
        rfl, fun _ _ _ _ _ _ _ _ _ _ e => e⟩) fun r s' h => ?_
    cases r with
    | error e =>
      obtain ⟨_, _, _, _, _, _, _, _, _, _, _, _, q⟩ := h
      exact q.elim
    | ok fl =>
      cases fl with
      | ret u =>
        obtain ⟨v, H', os, bare, un, hok', r', q⟩ := h
        subst q
        obtain rfl : u = Value.bool true := r'
        refine ⟨rfl, OldK.of_keep fun b o e => ?_, os, bare⟩
        cases q : H b with
        | none => exact un.keep b o e q (fun m => by cases m) fun m => by cases m
        | some u =>
          obtain ⟨e1, e2, _⟩ := hH b u q
          rw [e1, ha] at e
          rw [e2] at q
          obtain ⟨g, _⟩ := hok' b _ (un.frzs b _ _ q)
          rw [g]
          exact e
      | next => exact False.elim h
      | brk => exact False.elim h
      | cont => exact False.elim h
  cases hk : K.lookup a with
  | some o =>
    have e := KX a o hk
    rw [ha] at e
    cases e
    exact go (fun _ => none) (fun b o q => by cases q) (.inr ⟨_, vs.toArray, _, hk, rfl, rfl, rfl, by rw [List.size_toArray, hi.length]; exact hl, by simpa using rv⟩) fun b o q => by cases q
  | none =>
    have at1 : ∀ b u, (fun b => if b = a then some (HO.frz { cls := .type "list", data := .seq vs.toArray } (.lst (ns.map V.int))) else none : Hp) b = some u → b = a ∧ u = HO.frz { cls := .type "list", data := .seq vs.toArray } (.lst (ns.map V.int)) := fun b u q => by
      by_cases hb : b = a
      · exact ⟨hb, (Option.some.inj ((if_pos hb).symm.trans q)).symm⟩
      · have q' := (if_neg hb).symm.trans q
        cases q'
    refine go _ (fun b u q => ⟨(at1 b u q).1, (at1 b u q).2, hk⟩) (.inl (.inr ⟨_, if_pos rfl⟩)) fun b u q => ?_
    obtain ⟨rfl, rfl⟩ := at1 b u q
    exact ⟨ha, by rw [List.length_map]; exact hl, vs, _, rv, ha⟩
theorem law_end {l : PySem.W.OpenLaw} {n k : Nat} {q : Program} {loose : List Str} {XP : (Str → Option Value) → Heap → Prop} {YP : World → Heap → Prop} {d : PySem.DefRec} {K : Params → PySem.W.Frag} {sc : Str} {G : World → FS}
    (hn : l.most = some n) (hn2 : n ≤ sizeLine) (hdf : d.params.defaults = []) (hr : Room k callerA)
    (hY : ∀ (w : World) (h : Heap), YP w h → (K w.params).In h)
    (F : ∀ (w : World) (mg : Str → Option Value) (fa : Addr) (h : Heap), (K w.params).In h → h.Ns mainGlobals mg → mg d.name = some (.ref fa) →
      ∃ fd : FuncData, (∀ (s : Shared) (u : Value), BindsTo s fd ⟨[u], []⟩ [(sc, u)]) ∧
        ∀ base : Heap, (K w.params).In base → base.Ns mainGlobals mg → FnG l.prog w (K w.params) mg base k fa fd [sc] (G w))
    (hG : ∀ (w : World) (ns : List Int), ns.length ≤ n → G w [.o (.scr ns)] [] (fun y _ => y = .d (.bool true)) (fun _ _ => False)) :
    PySem.W.WalkO q loose XP YP l.row.toRowW d [] (fun f vs => PySem.call f vs) := by
  refine Att.attach_call hn hdf fun w s0 s1 mg mb fa o pm cd doc a vs ns GR Y ho hd hcd hmg hobj hints hlen hg => ?_
  have KX := hY w _ Y
  obtain ⟨fd, hb, hF⟩ := F w mg fa _ KX GR.T.g hmg
  exact law_go KX GR.T.g GR.T.b GR.T.builtins GR.T.nolimit hg hobj hints (Nat.le_trans hlen hn2) hr hF hb (hG w ns hlen)
end Dl

/-! the data layer, part 9: the operations of the language on data -/
namespace Dl
open PySem
open PySem.Spec
open PyProof.Rows
open L2
open Evl (Ex)

/-- a text by its signs -/
abbrev S (l : List Nat) : Str := ⟨l.toArray⟩
def cut {α : Type} (l : List α) (lo hi : Option Int) : List α := (l.drop (HT.sIx l.length 0 lo)).take (HT.sIx l.length l.length hi - HT.sIx l.length 0 lo)

/-! ### + - * // % ** -/
def gAdd : G2 := fun x y k => match x, y with
  | .int i, .int j => k (.int (i + j))
  | .str a, .str b => a.length + b.length ≤ sizeLine ∧ k (.str (a ++ b))
  | .tuple a, .tuple b => a.length + b.length ≤ sizeLine ∧ k (.tuple (a ++ b))
  | .list a, .list b => a.length + b.length ≤ sizeLine ∧ k (.list (a ++ b))
  | _, _ => False
def gAddL : GL2 := fun x y k => match x, y with
  | .list a, .list b => a.length + b.length ≤ sizeLine ∧ k (a ++ b)
  | _, _ => False
def gSub : G2 := fun x y k => match x, y with
  | .int i, .int j => k (.int (i - j))
  | _, _ => False
def gMul : G2 := fun x y k => match x, y with
  | .int i, .int j => i.natAbs.log2 + j.natAbs.log2 < 1000000 ∧ k (.int (i * j))
  | .list a, .int j => -(2 ^ 63) ≤ j ∧ j < 2 ^ 63 ∧ a.length * j.toNat ≤ sizeLine ∧ k (.list (List.replicate j.toNat a).flatten)
  | .str a, .int j => j ≤ 100000 ∧ -100000 ≤ j ∧ a.length ≤ 100 ∧ k (.str ⟨(List.replicate j.toNat a.cps.toList).flatten.toArray⟩)
  | _, _ => False
def gMulL : GL2 := fun x y k => match x, y with
  | .list a, .int j => -(2 ^ 63) ≤ j ∧ j < 2 ^ 63 ∧ a.length * j.toNat ≤ sizeLine ∧ k (List.replicate j.toNat a).flatten
  | _, _ => False
def gDiv : G2 := fun x y k => match x, y with
  | .int i, .int j => (0 < j ∧ j.natAbs.log2 < 9000) ∧ k (.int (i / j))
  | _, _ => False
def gMod : G2 := fun x y k => match x, y with
  | .int i, .int j => 0 < j ∧ k (.int (i % j))
  | _, _ => False
def gPow : G2 := fun x y k => match x, y with
  | .int i, .int j => (0 ≤ j ∧ j ≤ 1000 ∧ i.natAbs.log2 < 100000) ∧ k (.int (i ^ j.toNat))
  | _, _ => False
section
variable {X : Cx}
theorem rpTup {K : PySem.W.Frag} {Hf H : Hp} {a b : Addr} {xs ys : List V} {ds es : List D} {k : D → Prop} {Q : VK} (e : Ex Hf H) (h1 : SqT K Hf a xs) (r1 : RpA K Hf xs ds) (h2 : SqT K Hf b ys) (r2 : RpA K Hf ys es) (F : Fol K Hf H k Q) (q : k (.tuple (ds ++ es))) :
    (xs = [] → Q (.ref b) H) ∧ (xs ≠ [] → ys = [] → Q (.ref a) H) ∧ (xs ≠ [] → ys ≠ [] → ∀ p, H p = none → Q (.ref p) (upd H p (.tup (xs ++ ys)))) := by
  refine ⟨fun z => ?_, fun _ z => ?_, fun _ _ p hp => F.newT e (r1.append r2) hp q⟩
  · subst z
    cases r1
    exact F.here e (.tup h2 r2) q
  · subst z
    cases r2
    rw [List.append_nil] at q
    exact F.here e (.tup h1 r1) q
theorem o_add : Op2 X (binaryOp .Add) gAdd := by
  refine ⟨_, (op_add (X := X)).or ((op_add_str (X := X)).or ((op_catA (X := X)).or (op_cat (X := X)))), fun x y Hf H dx dy k Q e rx ry q F => ?_⟩
  cases dx <;> cases dy <;> first | exact q.elim | skip
  · rw [rx.int, ry.int]
    exact .inl ⟨_, _, rfl, rfl, F.here e (.int _) q⟩
  · rw [rx.str, ry.str]
    exact .inr (.inl ⟨_, _, rfl, rfl, q.1, F.here e (.str _) q.2⟩)
  · obtain ⟨a, xs, rfl, h1, r1⟩ := rx.list e
    obtain ⟨b, ys, rfl, h2, r2⟩ := ry.list e
    exact .inr (.inr (.inr ⟨a, b, xs, ys, rfl, rfl, h1, h2, by rw [r1.length, r2.length]; exact q.1, fun p hp => F.new e (r1.append r2) hp q.2⟩))
  · obtain ⟨a, xs, rfl, h1, r1⟩ := rx.tup
    obtain ⟨b, ys, rfl, h2, r2⟩ := ry.tup
    exact .inr (.inr (.inl ⟨a, b, xs, ys, rfl, rfl, Evl.ex_t e h1, Evl.ex_t e h2, by rw [r1.length, r2.length]; exact q.1, rpTup e h1 r1 h2 r2 F q.2⟩))
theorem o_addL : OpL2 X (binaryOp .Add) gAddL := by
  refine ⟨_, op_cat (X := X), fun x y Hf H dx dy k Q e rx ry q F => ?_⟩
  cases dx <;> cases dy <;> first | exact q.elim | skip
  obtain ⟨a, xs, rfl, h1, r1⟩ := rx.list e
  obtain ⟨b, ys, rfl, h2, r2⟩ := ry.list e
  exact ⟨a, b, xs, ys, rfl, rfl, h1, h2, by rw [r1.length, r2.length]; exact q.1, fun p hp => F p _ _ Hf H (.refl e) hp (r1.append r2) q.2⟩
theorem o_sub : Op2 X (binaryOp .Sub) gSub := by
  refine ⟨_, op_sub (X := X), fun x y Hf H dx dy k Q e rx ry q F => ?_⟩
  cases dx <;> cases dy <;> first | exact q.elim | skip
  rw [rx.int, ry.int]
  exact ⟨_, _, rfl, rfl, F.here e (.int _) q⟩
theorem str_mul {a : Str} {j : Int} (h1 : j ≤ 100000) (h2 : -100000 ≤ j) (h3 : a.length ≤ 100) : MulOk a j ∧ Txt.mul a j = ⟨(List.replicate j.toNat a.cps.toList).flatten.toArray⟩ := by
  refine ⟨⟨?_, fun h _ => ?_, fun h _ => ?_⟩, ?_⟩
  · rw [Bool.or_eq_false_iff]
    exact ⟨decide_eq_false (by omega), decide_eq_false (by omega)⟩
  · have : (100 : Int) ≤ (2 ^ 63 - 1) / j := by
      have h4 : (100 : Int) * j ≤ 2 ^ 63 - 1 := by omega
      exact Int.le_ediv_of_mul_le (by omega) h4
    omega
  · have hm : a.length * j.toNat ≤ 100 * 100000 := Nat.mul_le_mul h3 (by omega)
    show decide (_ > sizeLine) = false
    refine decide_eq_false ?_
    have : (sizeLine : Nat) = 16777216 := sizeLine_eq
    omega
  · have fold : ∀ (n : Nat) (acc : Array Nat), (List.replicate n a.cps).foldl (· ++ ·) acc = (acc.toList ++ (List.replicate n a.cps.toList).flatten).toArray := by
      intro n
      induction n with
      | zero => intro acc; simp
      | succ n ih =>
        intro acc
        rw [List.replicate_succ, List.foldl_cons, ih, List.replicate_succ, List.flatten_cons, Array.toList_append, List.append_assoc]
    unfold Txt.mul
    by_cases hj : j < 1
    · rw [if_pos hj]
      have : j.toNat = 0 := by omega
      rw [this]
      rfl
    · rw [if_neg hj]
      by_cases hc : (j == 1 || a.length == 0) = true
      · rw [if_pos hc]
        rcases Bool.or_eq_true_iff.mp hc with h | h
        · have : j = 1 := by simpa using h
          rw [this]
          show a = ⟨(List.replicate 1 a.cps.toList).flatten.toArray⟩
          simp
        · have ha : a.cps.toList = [] := by
            have : a.cps.size = 0 := by
              have h' : a.length = 0 := by simpa using h
              exact h'
            simpa using this
          obtain ⟨c⟩ := a
          have : c = #[] := by simpa using ha
          subst this
          show (⟨#[]⟩ : Str) = ⟨(List.replicate j.toNat []).flatten.toArray⟩
          simp
      · rw [if_neg hc, fold]
        simp
theorem op_mul_str : OpR X (binaryOp .Mult) (fun x y H Q => ∃ a j, x = .str a ∧ y = .int j ∧ (j ≤ 100000 ∧ -100000 ≤ j ∧ a.length ≤ 100) ∧ Q (.str ⟨(List.replicate j.toNat a.cps.toList).flatten.toArray⟩) H) := by
  intro pins s σ H x y v u Q I rx ry h
  obtain ⟨a, j, rfl, rfl, ⟨h1, h2, h3⟩, q⟩ := h
  obtain ⟨t, rfl⟩ := rx
  obtain ⟨t', rfl⟩ := ry
  obtain ⟨m1, m2⟩ := str_mul h1 h2 h3
  refine SB.mul m1 fun t'' k => ?_
  rw [m2]
  exact ⟨.str _, H, I.tok _, ⟨_, rfl⟩, q⟩
theorem o_mul : Op2 X (binaryOp .Mult) gMul := by
  refine ⟨_, (op_mulW (X := X)).or ((op_rep (X := X)).or (op_mul_str (X := X))), fun x y Hf H dx dy k Q e rx ry q F => ?_⟩
  cases dx <;> cases dy <;> first | exact q.elim | skip
  · rw [rx.int, ry.int]
    exact .inl ⟨_, _, rfl, rfl, q.1, F.here e (.int _) q.2⟩
  · rw [rx.str, ry.int]
    exact .inr (.inr ⟨_, _, rfl, rfl, ⟨q.1, q.2.1, q.2.2.1⟩, F.here e (.str _) q.2.2.2⟩)
  · obtain ⟨a, xs, rfl, h1, r1⟩ := rx.list e
    rw [ry.int]
    exact .inr (.inl ⟨a, _, xs, rfl, rfl, h1, q.1, q.2.1, by rw [r1.length]; exact q.2.2.1, fun p hp => F.new e r1.flat hp q.2.2.2⟩)
theorem o_mulL : OpL2 X (binaryOp .Mult) gMulL := by
  refine ⟨_, op_rep (X := X), fun x y Hf H dx dy k Q e rx ry q F => ?_⟩
  cases dx <;> cases dy <;> first | exact q.elim | skip
  obtain ⟨a, xs, rfl, h1, r1⟩ := rx.list e
  rw [ry.int]
  exact ⟨a, _, xs, rfl, rfl, h1, q.1, q.2.1, by rw [r1.length]; exact q.2.2.1, fun p hp => F p _ _ Hf H (.refl e) hp r1.flat q.2.2.2⟩
theorem o_div : Op2 X (binaryOp .FloorDiv) gDiv := by
  refine ⟨_, op_fdivW (X := X), fun x y Hf H dx dy k Q e rx ry q F => ?_⟩
  cases dx <;> cases dy <;> first | exact q.elim | skip
  rw [rx.int, ry.int]
  exact ⟨_, _, rfl, rfl, q.1, F.here e (.int _) q.2⟩
theorem o_mod : Op2 X (binaryOp .Mod) gMod := by
  refine ⟨_, op_mod (X := X), fun x y Hf H dx dy k Q e rx ry q F => ?_⟩
  cases dx <;> cases dy <;> first | exact q.elim | skip
  rw [rx.int, ry.int]
  exact ⟨_, _, rfl, rfl, q.1, F.here e (.int _) q.2⟩
theorem op_powW : OpR X (binaryOp .Pow) (rI (fun i j => 0 ≤ j ∧ j ≤ 1000 ∧ i.natAbs.log2 < 100000) fun i j => .int (i ^ j.toNat)) := opI fun i j _ _ _ _ _ hc q => by
  refine pow_int hc.1 ?_ q
  have hb : Builtin.Int.intBits i ≤ i.natAbs.log2 + 1 := by
    unfold Builtin.Int.intBits
    split <;> omega
  have h1 : (Builtin.Int.intBits i : Int) ≤ 100000 := by
    have := hc.2.2
    omega
  have h2 : (Builtin.Int.intBits i : Int) * j ≤ 100000 * 1000 := Int.mul_le_mul h1 hc.2.1 hc.1 (by omega)
  omega
theorem o_pow : Op2 X (binaryOp .Pow) gPow := by
  refine ⟨_, op_powW (X := X), fun x y Hf H dx dy k Q e rx ry q F => ?_⟩
  cases dx <;> cases dy <;> first | exact q.elim | skip
  rw [rx.int, ry.int]
  exact ⟨_, _, rfl, rfl, q.1, F.here e (.int _) q.2⟩
def gNeg : G1 := fun x k => match x with
  | .int i => k (.int (-i))
  | _ => False
theorem o_neg : Op1 X (unaryOp .USub) gNeg := by
  refine ⟨_, un_neg (X := X), fun x Hf H dx k Q e rx q F => ?_⟩
  cases dx <;> first | exact q.elim | skip
  rw [rx.int]
  exact ⟨_, rfl, F.here e (.int _) q⟩
/-! ### += and -= -/
def gIAdd : G2 := fun x y k => match x, y with
  | .int i, .int j => k (.int (i + j))
  | .str a, .str b => a.length + b.length ≤ sizeLine ∧ k (.str (a ++ b))
  | _, _ => False
theorem o_iadd : Op2 X (inplaceOp .Add) gIAdd := by
  refine ⟨_, (iop_add (X := X)).or (iop_add_str (X := X)), fun x y Hf H dx dy k Q e rx ry q F => ?_⟩
  cases dx <;> cases dy <;> first | exact q.elim | skip
  · rw [rx.int, ry.int]
    exact .inl ⟨_, _, rfl, rfl, F.here e (.int _) q⟩
  · rw [rx.str, ry.str]
    exact .inr ⟨_, _, rfl, rfl, q.1, F.here e (.str _) q.2⟩
theorem o_isub : Op2 X (inplaceOp .Sub) gSub := by
  refine ⟨_, iop_sub (X := X), fun x y Hf H dx dy k Q e rx ry q F => ?_⟩
  cases dx <;> cases dy <;> first | exact q.elim | skip
  rw [rx.int, ry.int]
  exact ⟨_, _, rfl, rfl, F.here e (.int _) q⟩
/-! ### comparisons -/
abbrev shp : D → Bool := SeqAt.shaped
abbrev eqd : D → D → Bool := PyData.eqv
end
mutual
theorem Rp.dp {K : PySem.W.Frag} {H : Hp} : ∀ {d : D} {v : V}, d.canLay0 = true → Rp K H v d → Dp K H v d
  | .none, _, _, .non => .non
  | .bool b, _, _, .bl _ => .bl b
  | .int i, _, _, .int _ => .int i
  | .str s, _, _, .str _ => .str s
  | .list ds, _, h, .lst e r => .lst (Evl.sq_of e) (RpA.dp (by simpa [PyData.canLay0] using h) r)
  | .tuple ds, _, h, .tup e r => .tup e (RpA.dp (by simpa [PyData.canLay0] using h) r)
  | .dict es, _, h, _ => by simp [PyData.canLay0] at h
theorem RpA.dp {K : PySem.W.Frag} {H : Hp} : ∀ {ds : List D} {vs : List V}, PyData.canLayAll0 ds = true → RpA K H vs ds → DpAll K H vs ds
  | [], _, _, .nil => .nil
  | d :: ds, _, h, .cons e r => by
    have h' : (d.canLay0 && PyData.canLayAll0 ds) = true := by simpa [PyData.canLayAll0] using h
    rw [Bool.and_eq_true] at h'
    exact .cons (Rp.dp h'.1 e) (RpA.dp h'.2 r)
end
section
variable {X : Cx}
def gEq : GB := fun x y k => match x, y with
  | .str a, .str b => k (a == b)
  | x, y => shp x = true ∧ shp y = true ∧ k (eqd x y)
def gNe : GB := fun x y k => gEq x y fun b => k (!b)
theorem o_eq (hu : X.A.units + 64 < cLine) : OpB X (compareOp .Eq) gEq := by
  refine ⟨_, (op_eq (X := X)).or (op_eqD (X := X) hu), fun x y Hf H dx dy k Q e rx ry q F => ?_⟩
  unfold gEq at q
  split at q
  · rename_i a b
    rw [rx.str, ry.str]
    refine .inl ⟨rfl, ?_⟩
    have e1 : decide (V.str a = V.str b) = (a == b) := by
      by_cases h : a = b
      · rw [h]; simp
      · rw [decide_eq_false (fun z => h (V.str.inj z))]
        exact (beq_eq_false_iff_ne.mpr h).symm
    rw [e1]
    exact F _ Hf H (.refl e) q
  · exact .inr ⟨dx, dy, Rp.dp (SeqAt.canLay_of_shaped q.1) (rx.full e), Rp.dp (SeqAt.canLay_of_shaped q.2.1) (ry.full e), q.1, q.2.1, F _ Hf H (.refl e) q.2.2⟩
theorem o_ne (hu : X.A.units + 64 < cLine) : OpB X (compareOp .NotEq) gNe := by
  refine ⟨_, (op_ne (X := X)).or (op_neD (X := X) hu), fun x y Hf H dx dy k Q e rx ry q F => ?_⟩
  unfold gNe gEq at q
  split at q
  · rename_i a b
    rw [rx.str, ry.str]
    refine .inl ⟨rfl, ?_⟩
    have e1 : decide (V.str a = V.str b) = (a == b) := by
      by_cases h : a = b
      · rw [h]; simp
      · rw [decide_eq_false (fun z => h (V.str.inj z))]
        exact (beq_eq_false_iff_ne.mpr h).symm
    rw [e1]
    exact F _ Hf H (.refl e) q
  · exact .inr ⟨dx, dy, Rp.dp (SeqAt.canLay_of_shaped q.1) (rx.full e), Rp.dp (SeqAt.canLay_of_shaped q.2.1) (ry.full e), q.1, q.2.1, F _ Hf H (.refl e) q.2.2⟩
def gLt : GB := fun x y k => match x, y with
  | .int i, .int j => k (decide (i < j))
  | .str a, .str b => k (decide (a.cps.toList < b.cps.toList))
  | _, _ => False
def gLe : GB := fun x y k => match x, y with
  | .int i, .int j => k (decide (i ≤ j))
  | .str a, .str b => k (!decide (b.cps.toList < a.cps.toList))
  | _, _ => False
def gGt : GB := fun x y k => match x, y with
  | .int i, .int j => k (decide (j < i))
  | .str a, .str b => k (decide (b.cps.toList < a.cps.toList))
  | _, _ => False
def gGe : GB := fun x y k => match x, y with
  | .int i, .int j => k (decide (j ≤ i))
  | .str a, .str b => k (!decide (a.cps.toList < b.cps.toList))
  | _, _ => False
theorem o_lt : OpB X (compareOp .Lt) gLt := by
  refine ⟨_, (op_lt (X := X)).or (op_lt_str (X := X)), fun x y Hf H dx dy k Q e rx ry q F => ?_⟩
  cases dx <;> cases dy <;> first | exact q.elim | skip
  · rw [rx.int, ry.int]
    exact .inl ⟨_, _, rfl, rfl, F _ Hf H (.refl e) q⟩
  · rw [rx.str, ry.str]
    exact .inr ⟨_, _, rfl, rfl, F _ Hf H (.refl e) q⟩
theorem o_le : OpB X (compareOp .LtE) gLe := by
  refine ⟨_, (op_le (X := X)).or (op_le_str (X := X)), fun x y Hf H dx dy k Q e rx ry q F => ?_⟩
  cases dx <;> cases dy <;> first | exact q.elim | skip
  · rw [rx.int, ry.int]
    exact .inl ⟨_, _, rfl, rfl, F _ Hf H (.refl e) q⟩
  · rw [rx.str, ry.str]
    exact .inr ⟨_, _, rfl, rfl, F _ Hf H (.refl e) q⟩
theorem o_gt : OpB X (compareOp .Gt) gGt := by
  refine ⟨_, (op_gt (X := X)).or (op_gt_str (X := X)), fun x y Hf H dx dy k Q e rx ry q F => ?_⟩
  cases dx <;> cases dy <;> first | exact q.elim | skip
  · rw [rx.int, ry.int]
    exact .inl ⟨_, _, rfl, rfl, F _ Hf H (.refl e) q⟩
  · rw [rx.str, ry.str]
    exact .inr ⟨_, _, rfl, rfl, F _ Hf H (.refl e) q⟩
theorem o_ge : OpB X (compareOp .GtE) gGe := by
  refine ⟨_, (op_ge (X := X)).or (op_ge_str (X := X)), fun x y Hf H dx dy k Q e rx ry q F => ?_⟩
  cases dx <;> cases dy <;> first | exact q.elim | skip
  · rw [rx.int, ry.int]
    exact .inl ⟨_, _, rfl, rfl, F _ Hf H (.refl e) q⟩
  · rw [rx.str, ry.str]
    exact .inr ⟨_, _, rfl, rfl, F _ Hf H (.refl e) q⟩
def gIs : GB := fun x y k => match x, y with
  | .none, .none => k true
  | .bool _, .none => k false
  | .int _, .none => k false
  | .str _, .none => k false
  | .list _, .none => k false
  | .tuple _, .none => k false
  | .bool a, .bool b => k (decide (a = b))
  | _, _ => False
theorem o_is : OpB X (compareOp .Is) gIs := by
  refine ⟨_, (op_isN (X := X)).or (op_is_bl (X := X)), fun x y Hf H dx dy k Q e rx ry q F => ?_⟩
  cases dx <;> cases dy <;> first | exact q.elim | skip
  · rw [rx.non, ry.non]
    exact .inl ⟨rfl, F true Hf H (.refl e) q⟩
  · rw [rx.bl, ry.non]
    exact .inl ⟨rfl, F false Hf H (.refl e) q⟩
  · rw [rx.bl, ry.bl]
    exact .inr ⟨_, _, rfl, rfl, F _ Hf H (.refl e) q⟩
  · rw [rx.int, ry.non]
    exact .inl ⟨rfl, F false Hf H (.refl e) q⟩
  · rw [rx.str, ry.non]
    exact .inl ⟨rfl, F false Hf H (.refl e) q⟩
  · obtain ⟨a, xs, rfl, _⟩ := rx.list e
    rw [ry.non]
    exact .inl ⟨rfl, F false Hf H (.refl e) q⟩
  · obtain ⟨a, xs, rfl, _⟩ := rx.tup
    rw [ry.non]
    exact .inl ⟨rfl, F false Hf H (.refl e) q⟩
def gIsNot : GB := fun x y k => gIs x y fun b => k (!b)
theorem o_isnot : OpB X (compareOp .IsNot) gIsNot := by
  refine ⟨_, (op_notN (X := X)).or (op_isnot_bl (X := X)), fun x y Hf H dx dy k Q e rx ry q F => ?_⟩
  cases dx <;> cases dy <;> first | exact q.elim | skip
  · rw [rx.non, ry.non]
    exact .inl ⟨rfl, F false Hf H (.refl e) q⟩
  · rw [rx.bl, ry.non]
    exact .inl ⟨rfl, F true Hf H (.refl e) q⟩
  · rw [rx.bl, ry.bl]
    exact .inr ⟨_, _, rfl, rfl, F _ Hf H (.refl e) q⟩
  · rw [rx.int, ry.non]
    exact .inl ⟨rfl, F true Hf H (.refl e) q⟩
  · rw [rx.str, ry.non]
    exact .inl ⟨rfl, F true Hf H (.refl e) q⟩
  · obtain ⟨a, xs, rfl, _⟩ := rx.list e
    rw [ry.non]
    exact .inl ⟨rfl, F true Hf H (.refl e) q⟩
  · obtain ⟨a, xs, rfl, _⟩ := rx.tup
    rw [ry.non]
    exact .inl ⟨rfl, F true Hf H (.refl e) q⟩
/-! in, not in: a sign in a text; a flat thing in a list or tuple of flat things -/
def flatD : D → Bool
  | .none => true
  | .bool _ => true
  | .int _ => true
  | .str _ => true
  | _ => false
def gIn : GB := fun x y k => match y with
  | .str z => match x with
    | .str w => match w.cps.toList with
      | [c] => k (decide (c ∈ z.cps.toList))
      | _ => False
    | _ => False
  | .list ds => flatD x = true ∧ ds.all flatD = true ∧ k (ds.any fun z => eqd z x)
  | .tuple ds => flatD x = true ∧ ds.all flatD = true ∧ k (ds.any fun z => eqd z x)
  | _ => False
def gNotIn : GB := fun x y k => gIn x y fun b => k (!b)
theorem flat_V {K : PySem.W.Frag} {Hf H : Hp} {v : V} {d : D} (h : flatD d = true) (r : RpH K Hf H v d) : flatV v = true := by
  cases d <;> first | cases h | skip
  · rw [r.non]; rfl
  · rw [r.bl]; rfl
  · rw [r.int]; rfl
  · rw [r.str]; rfl
theorem eqV_eqd {K : PySem.W.Frag} {Hf H : Hp} {v u : V} {d e : D} (h1 : flatD d = true) (h2 : flatD e = true) (r1 : RpH K Hf H v d) (r2 : RpH K Hf H u e) : eqV v u = eqd d e := by
  cases d <;> first | cases h1 | skip
  · rw [r1.non]
    cases e <;> first | cases h2 | skip
    · rw [r2.non]; rfl
    · rw [r2.bl]; rfl
    · rw [r2.int]; rfl
    · rw [r2.str]; rfl
  · rw [r1.bl]
    cases e <;> first | cases h2 | skip
    · rw [r2.non]; rfl
    · rw [r2.bl]; rfl
    · rw [r2.int]; rfl
    · rw [r2.str]; rfl
  · rw [r1.int]
    cases e <;> first | cases h2 | skip
    · rw [r2.non]; rfl
    · rw [r2.bl]; rfl
    · rw [r2.int]; rfl
    · rw [r2.str]; rfl
  · rw [r1.str]
    cases e <;> first | cases h2 | skip
    · rw [r2.non]; rfl
    · rw [r2.bl]; rfl
    · rw [r2.int]; rfl
    · rw [r2.str]; rfl
theorem inV_any {K : PySem.W.Frag} {Hf H : Hp} {v : V} {d : D} (hd : flatD d = true) (r : RpH K Hf H v d) : ∀ {xs : List V} {ds : List D}, RpA K Hf xs ds → ds.all flatD = true → xs.all flatV = true ∧ inV v xs = ds.any fun z => eqd z d
  | _, _, .nil, _ => ⟨rfl, rfl⟩
  | _, _, .cons h t, q => by
    rw [List.all_cons, Bool.and_eq_true] at q
    obtain ⟨i1, i2⟩ := inV_any hd r t q.2
    refine ⟨?_, ?_⟩
    · rw [List.all_cons, Bool.and_eq_true]
      exact ⟨flat_V (Hf := Hf) (H := H) q.1 (.inl h), i1⟩
    · have e1 := eqV_eqd q.1 hd (.inl h) r
      unfold inV at i2 ⊢
      rw [List.any_cons, List.any_cons, e1, i2]
theorem one_sign {w : Str} {c : Nat} (h : w.cps.toList = [c]) : w = ⟨#[c]⟩ := by
  obtain ⟨a⟩ := w
  congr 1
  apply Array.toList_inj.mp
  exact h
theorem o_in : OpB X (compareOp .In) gIn := by
  refine ⟨_, (op_in_sign (X := X)).or (op_in_seq (X := X)), fun x y Hf H dx dy k Q e rx ry q F => ?_⟩
  cases dy <;> first | exact q.elim | skip
  · cases dx <;> first | exact q.elim | skip
    rename_i z w
    unfold gIn at q
    dsimp only at q
    split at q
    · rename_i c hc
      rw [rx.str, ry.str, one_sign hc]
      exact .inl ⟨c, z, rfl, rfl, F _ Hf H (.refl e) q⟩
    · exact q.elim
  · obtain ⟨a, xs, rfl, h1, r1⟩ := ry.list e
    obtain ⟨i1, i2⟩ := inV_any q.1 rx r1 q.2.1
    refine .inr ⟨a, xs, rfl, .inl (Evl.sq_of h1), flat_V q.1 rx, i1, ?_⟩
    rw [i2]
    exact F _ Hf H (.refl e) q.2.2
  · obtain ⟨a, xs, rfl, h1, r1⟩ := ry.tup
    obtain ⟨i1, i2⟩ := inV_any q.1 rx r1 q.2.1
    refine .inr ⟨a, xs, rfl, .inr (Evl.ex_t e h1), flat_V q.1 rx, i1, ?_⟩
    rw [i2]
    exact F _ Hf H (.refl e) q.2.2
theorem o_notin : OpB X (compareOp .NotIn) gNotIn := by
  refine ⟨_, (op_notIn_sign (X := X)).or (op_notIn_seq (X := X)), fun x y Hf H dx dy k Q e rx ry q F => ?_⟩
  cases dy <;> first | exact q.elim | skip
  · cases dx <;> first | exact q.elim | skip
    rename_i z w
    unfold gNotIn gIn at q
    dsimp only at q
    split at q
    · rename_i c hc
      rw [rx.str, ry.str, one_sign hc]
      exact .inl ⟨c, z, rfl, rfl, F _ Hf H (.refl e) q⟩
    · exact q.elim
  · obtain ⟨a, xs, rfl, h1, r1⟩ := ry.list e
    obtain ⟨i1, i2⟩ := inV_any q.1 rx r1 q.2.1
    refine .inr ⟨a, xs, rfl, .inl (Evl.sq_of h1), flat_V q.1 rx, i1, ?_⟩
    rw [i2]
    exact F _ Hf H (.refl e) q.2.2
  · obtain ⟨a, xs, rfl, h1, r1⟩ := ry.tup
    obtain ⟨i1, i2⟩ := inV_any q.1 rx r1 q.2.1
    refine .inr ⟨a, xs, rfl, .inr (Evl.ex_t e h1), flat_V q.1 rx, i1, ?_⟩
    rw [i2]
    exact F _ Hf H (.refl e) q.2.2
end
end Dl

/-! the data layer, part 10: subscripts, slices, built-ins, methods -/
namespace Dl
open PySem
open PySem.Spec
open PyProof.Rows
open L2
open Evl (Ex)
section
variable {X : Cx}
def gIx : G2 := fun x y k => match y with
  | .int i => match x with
    | .list ds => match atI ds i with
      | some d => k d
      | none => False
    | .tuple ds => match atI ds i with
      | some d => k d
      | none => False
    | .str z => z.length ≤ sizeLine ∧ match atI z.cps.toList i with
      | some c => k (sign c)
      | none => False
    | _ => False
  | _ => False
theorem atI_rp {K : PySem.W.Frag} {H : Hp} {xs : List V} {ds : List D} {i : Int} {d : D} (r : RpA K H xs ds) (h : atI ds i = some d) : ∃ v, atI xs i = some v ∧ Rp K H v d := by
  unfold atI at h ⊢
  rw [r.length]
  cases e : ixN ds.length i with
  | none =>
    rw [e] at h
    cases h
  | some j =>
    rw [e] at h
    exact r.getD h
theorem o_ix : OpI X gIx := by
  refine ⟨_, ix_seq (X := X), fun x y Hf H dx dy k Q e rx ry q F => ?_⟩
  unfold gIx at q
  split at q
  · rename_i i
    rw [ry.int]
    split at q
    · obtain ⟨a, xs, rfl, h1, r1⟩ := rx.list e
      split at q
      · rename_i d hd
        obtain ⟨v, hv, rv⟩ := atI_rp r1 hd
        exact .inl ⟨a, xs, i, v, rfl, rfl, Evl.sq_of h1, hv, F.here e rv q⟩
      · exact q.elim
    · obtain ⟨a, xs, rfl, h1, r1⟩ := rx.tup
      split at q
      · rename_i d hd
        obtain ⟨v, hv, rv⟩ := atI_rp r1 hd
        exact .inr (.inl ⟨a, xs, i, v, rfl, rfl, Evl.ex_t e h1, hv, F.here e rv q⟩)
      · exact q.elim
    · obtain ⟨hz, q⟩ := q
      rw [rx.str]
      split at q
      · rename_i c hc
        exact .inr (.inr ⟨_, i, c, rfl, rfl, hz, hc, F.here e (.str _) q⟩)
      · exact q.elim
    · exact q.elim
  · exact q.elim
def gSl : GS := fun x lo hi k => match x with
  | .list ds => k (.list (cut ds lo hi))
  | .tuple ds => k (.tuple (cut ds lo hi))
  | .str z => z.length ≤ sizeLine ∧ k (.str ⟨(cut z.cps.toList lo hi).toArray⟩)
  | _ => False
def gSlL : GSL := fun x lo hi k => match x with
  | .list ds => k (cut ds lo hi)
  | _ => False
theorem rp_cut {K : PySem.W.Frag} {H : Hp} {xs : List V} {ds : List D} {lo hi : Option Int} (r : RpA K H xs ds) : RpA K H (cutV xs lo hi) (cut ds lo hi) := by
  unfold cutV cut
  rw [r.length]
  exact (r.drop _).take _
theorem cut_all {α : Type} {l : List α} {lo hi : Option Int} (h : HT.sIx l.length 0 lo = 0 ∧ HT.sIx l.length l.length hi = l.length) : cut l lo hi = l := by
  unfold cut
  rw [h.1, h.2]
  show List.take (l.length - 0) l = l
  rw [Nat.sub_zero, List.take_length]
theorem o_sl : OpS X gSl := by
  refine ⟨_, (sl_list (X := X)).or ((sl_tupA (X := X)).or (sl_str (X := X))), fun x lo hi Hf H dx k Q e rx q F => ?_⟩
  cases dx <;> first | exact q.elim | skip
  · rename_i z
    rw [rx.str]
    refine .inr (.inr ⟨z, rfl, q.1, F.here e (.str _) ?_⟩)
    exact q.2
  · obtain ⟨a, xs, rfl, h1, r1⟩ := rx.list e
    exact .inl ⟨a, xs, rfl, Evl.sq_of h1, fun p hp => F.new e (rp_cut r1) hp q⟩
  · obtain ⟨a, xs, rfl, h1, r1⟩ := rx.tup
    refine .inr (.inl ⟨a, xs, rfl, Evl.ex_t e h1, fun hw => ?_, fun _ p hp => F.newT e (rp_cut r1) hp q⟩)
    rw [r1.length] at hw
    have q' : k (.tuple (cut _ lo hi)) := q
    rw [cut_all hw] at q'
    exact F.here e (.tup h1 r1) q'
theorem o_slL : OpSL X gSlL := by
  refine ⟨_, sl_list (X := X), fun x lo hi Hf H dx k Q e rx q F => ?_⟩
  cases dx <;> first | exact q.elim | skip
  obtain ⟨a, xs, rfl, h1, r1⟩ := rx.list e
  exact ⟨a, xs, rfl, Evl.sq_of h1, fun p hp => F p _ _ Hf H (.refl e) hp (rp_cut r1) q⟩

/-! ### built-in functions -/
theorem hs1 {K : PySem.W.Frag} {Hf H : Hp} {vs : List V} {d : D} (h : RpHs K Hf H vs [d]) : ∃ v, vs = [v] ∧ RpH K Hf H v d := by
  cases h with
  | cons h t =>
    cases t
    exact ⟨_, rfl, h⟩
theorem hs2 {K : PySem.W.Frag} {Hf H : Hp} {vs : List V} {d e : D} (h : RpHs K Hf H vs [d, e]) : ∃ v u, vs = [v, u] ∧ RpH K Hf H v d ∧ RpH K Hf H u e := by
  cases h with
  | cons h t =>
    obtain ⟨u, rfl, hu⟩ := hs1 t
    exact ⟨_, u, rfl, h, hu⟩
def gLen : GA := fun ds k => match ds with
  | [.str z] => z.length ≤ sizeLine ∧ k (.int z.length)
  | [.list l] => k (.int l.length)
  | [.tuple l] => k (.int l.length)
  | _ => False
theorem o_len : OpC X (.builtin "len") gLen := by
  refine ⟨_, call_len (X := X), fun xs Hf H ds k Q e rx q F => ?_⟩
  unfold gLen at q
  split at q
  · obtain ⟨v, rfl, r⟩ := hs1 rx
    rw [r.str]
    exact ⟨_, _, rfl, ⟨q.1, rfl⟩, F.here e (.int _) q.2⟩
  · obtain ⟨v, rfl, r⟩ := hs1 rx
    obtain ⟨a, xs, rfl, h1, r1⟩ := r.list e
    exact ⟨_, xs.length, rfl, .inl ⟨xs, Evl.sq_of h1, rfl⟩, F.here e (.int _) (by rw [r1.length]; exact q)⟩
  · obtain ⟨v, rfl, r⟩ := hs1 rx
    obtain ⟨a, xs, rfl, h1, r1⟩ := r.tup
    exact ⟨_, xs.length, rfl, .inr ⟨xs, Evl.ex_t e h1, rfl⟩, F.here e (.int _) (by rw [r1.length]; exact q)⟩
  · exact q.elim
def gAbs : GA := fun ds k => match ds with
  | [.int i] => k (.int (if i < 0 then -i else i))
  | _ => False
theorem o_abs : OpC X (.builtin "abs") gAbs := by
  refine ⟨_, call_abs (X := X), fun xs Hf H ds k Q e rx q F => ?_⟩
  unfold gAbs at q
  split at q
  · obtain ⟨v, rfl, r⟩ := hs1 rx
    rw [r.int]
    exact ⟨_, rfl, F.here e (.int _) q⟩
  · exact q.elim
/-- all ints, all truth values, all texts -/
def intsD : List D → Option (List Int)
  | [] => some []
  | .int i :: r => (intsD r).map (i :: ·)
  | _ :: _ => none
def boolsD : List D → Option (List Bool)
  | [] => some []
  | .bool i :: r => (boolsD r).map (i :: ·)
  | _ :: _ => none
def strsD : List D → Option (List Str)
  | [] => some []
  | .str i :: r => (strsD r).map (i :: ·)
  | _ :: _ => none
theorem intsD_ok {K : PySem.W.Frag} {H : Hp} : ∀ {ds : List D} {vs : List V} {ns : List Int}, intsD ds = some ns → RpA K H vs ds → vs = ns.map V.int
  | [], _, _, h, .nil => by cases h; rfl
  | .int i :: r, _, _, h, .cons q t => by
    cases q
    unfold intsD at h
    cases e : intsD r with
    | none => rw [e] at h; cases h
    | some l =>
      rw [e] at h
      cases h
      rw [intsD_ok e t]
      rfl
  | .none :: _, _, _, h, _ => by cases h
  | .bool _ :: _, _, _, h, _ => by cases h
  | .str _ :: _, _, _, h, _ => by cases h
  | .list _ :: _, _, _, h, _ => by cases h
  | .tuple _ :: _, _, _, h, _ => by cases h
  | .dict _ :: _, _, _, h, _ => by cases h
theorem boolsD_ok {K : PySem.W.Frag} {H : Hp} : ∀ {ds : List D} {vs : List V} {ns : List Bool}, boolsD ds = some ns → RpA K H vs ds → vs = ns.map V.bl
  | [], _, _, h, .nil => by cases h; rfl
  | .bool i :: r, _, _, h, .cons q t => by
    cases q
    unfold boolsD at h
    cases e : boolsD r with
    | none => rw [e] at h; cases h
    | some l =>
      rw [e] at h
      cases h
      rw [boolsD_ok e t]
      rfl
  | .none :: _, _, _, h, _ => by cases h
  | .int _ :: _, _, _, h, _ => by cases h
  | .str _ :: _, _, _, h, _ => by cases h
  | .list _ :: _, _, _, h, _ => by cases h
  | .tuple _ :: _, _, _, h, _ => by cases h
  | .dict _ :: _, _, _, h, _ => by cases h
theorem strsD_ok {K : PySem.W.Frag} {H : Hp} : ∀ {ds : List D} {vs : List V} {ns : List Str}, strsD ds = some ns → RpA K H vs ds → vs = ns.map V.str
  | [], _, _, h, .nil => by cases h; rfl
  | .str i :: r, _, _, h, .cons q t => by
    cases q
    unfold strsD at h
    cases e : strsD r with
    | none => rw [e] at h; cases h
    | some l =>
      rw [e] at h
      cases h
      rw [strsD_ok e t]
      rfl
  | .none :: _, _, _, h, _ => by cases h
  | .int _ :: _, _, _, h, _ => by cases h
  | .bool _ :: _, _, _, h, _ => by cases h
  | .list _ :: _, _, _, h, _ => by cases h
  | .tuple _ :: _, _, _, h, _ => by cases h
  | .dict _ :: _, _, _, h, _ => by cases h
theorem intsD_map {α : Type} (f : α → Int) (l : List α) : intsD (l.map fun a => .int (f a)) = some (l.map f) := by
  induction l with
  | nil => rfl
  | cons a l ih =>
    show (intsD (l.map fun a => .int (f a))).map (f a :: ·) = _
    rw [ih]
    rfl
theorem boolsD_map {α : Type} (f : α → Bool) (l : List α) : boolsD (l.map fun a => .bool (f a)) = some (l.map f) := by
  induction l with
  | nil => rfl
  | cons a l ih =>
    show (boolsD (l.map fun a => .bool (f a))).map (f a :: ·) = _
    rw [ih]
    rfl
theorem strsD_map {α : Type} (f : α → Str) (l : List α) : strsD (l.map fun a => .str (f a)) = some (l.map f) := by
  induction l with
  | nil => rfl
  | cons a l ih =>
    show (strsD (l.map fun a => .str (f a))).map (f a :: ·) = _
    rw [ih]
    rfl
/-- a greatest, a least one -/
def maxI : List Int → Int
  | [] => 0
  | [x] => x
  | x :: r => max x (maxI r)
def minI : List Int → Int
  | [] => 0
  | [x] => x
  | x :: r => min x (minI r)
theorem maxI_mem : ∀ {l : List Int}, l ≠ [] → maxI l ∈ l ∧ ∀ y ∈ l, y ≤ maxI l
  | [], h => absurd rfl h
  | [x], _ => ⟨by simp [maxI], fun y hy => by simp [maxI] at hy ⊢; omega⟩
  | x :: y :: r, _ => by
    obtain ⟨h1, h2⟩ := maxI_mem (l := y :: r) (by simp)
    show max x (maxI (y :: r)) ∈ _ ∧ _
    refine ⟨?_, fun z hz => ?_⟩
    · by_cases h : x ≤ maxI (y :: r)
      · rw [Int.max_eq_right h]
        exact List.mem_cons_of_mem _ h1
      · rw [Int.max_eq_left (by omega)]
        exact List.mem_cons_self
    · show z ≤ max x (maxI (y :: r))
      rcases List.mem_cons.mp hz with rfl | hz
      · exact Int.le_max_left _ _
      · exact Int.le_trans (h2 z hz) (Int.le_max_right _ _)
theorem minI_mem : ∀ {l : List Int}, l ≠ [] → minI l ∈ l ∧ ∀ y ∈ l, minI l ≤ y
  | [], h => absurd rfl h
  | [x], _ => ⟨by simp [minI], fun y hy => by simp [minI] at hy ⊢; omega⟩
  | x :: y :: r, _ => by
    obtain ⟨h1, h2⟩ := minI_mem (l := y :: r) (by simp)
    show min x (minI (y :: r)) ∈ _ ∧ _
    refine ⟨?_, fun z hz => ?_⟩
    · by_cases h : x ≤ minI (y :: r)
      · rw [Int.min_eq_left h]
        exact List.mem_cons_self
      · rw [Int.min_eq_right (by omega)]
        exact List.mem_cons_of_mem _ h1
    · show min x (minI (y :: r)) ≤ z
      rcases List.mem_cons.mp hz with rfl | hz
      · exact Int.min_le_left _ _
      · exact Int.le_trans (Int.min_le_right _ _) (h2 z hz)
def withO {α : Type} (o : Option α) (k : α → Prop) : Prop := match o with
  | some a => k a
  | none => False
theorem withO_ok {α : Type} {o : Option α} {k : α → Prop} (h : withO o k) : ∃ a, o = some a ∧ k a := by
  cases o with
  | none => exact h.elim
  | some a => exact ⟨a, rfl, h⟩
def gMax : GA := fun ds k => match ds with
  | [.int i, .int j] => k (.int (max i j))
  | [.list l] => withO (intsD l) fun ns => ns ≠ [] ∧ k (.int (maxI ns))
  | _ => False
def gMin : GA := fun ds k => match ds with
  | [.int i, .int j] => k (.int (min i j))
  | [.list l] => withO (intsD l) fun ns => ns ≠ [] ∧ k (.int (minI ns))
  | _ => False
theorem callOr {f : Value} {r r' : List V → Hp → VK → Prop} (h : CallR X f r) (h' : CallR X f r') : CallR X f (fun xs H Q => r xs H Q ∨ r' xs H Q) := fun pins s σ H xs us Q I rv q => q.elim (fun q => h pins s σ H xs us Q I rv q) fun q => h' pins s σ H xs us Q I rv q
theorem o_max (hc : X.calm = true) : OpC X (.builtin "max") gMax := by
  refine ⟨_, callOr (call_max2 hc) (cr_max hc), fun xs Hf H ds k Q e rx q F => ?_⟩
  unfold gMax at q
  split at q
  · rename_i i j
    obtain ⟨v, u, rfl, r1, r2⟩ := hs2 rx
    rw [r1.int, r2.int]
    refine .inl ⟨i, j, rfl, ?_⟩
    have e1 : (if j > i then j else i) = max i j := by split <;> omega
    rw [e1]
    exact F.here e (.int _) q
  · obtain ⟨v, rfl, r⟩ := hs1 rx
    obtain ⟨a, xs, rfl, h1, r1⟩ := r.list e
    obtain ⟨ns, en, hne, q⟩ := withO_ok q
    have ex := intsD_ok en r1
    subst ex
    refine .inr ⟨a, ns, rfl, Evl.sq_of h1, List.length_pos_iff.mpr hne, fun m hm hall => ?_⟩
    obtain ⟨g1, g2⟩ := maxI_mem hne
    have : m = maxI ns := Int.le_antisymm (g2 m hm) (hall _ g1)
    rw [this]
    exact F.here e (.int _) q
  · exact q.elim
theorem o_min (hc : X.calm = true) : OpC X (.builtin "min") gMin := by
  refine ⟨_, callOr (call_min2 hc) (cr_min hc), fun xs Hf H ds k Q e rx q F => ?_⟩
  unfold gMin at q
  split at q
  · rename_i i j
    obtain ⟨v, u, rfl, r1, r2⟩ := hs2 rx
    rw [r1.int, r2.int]
    refine .inl ⟨i, j, rfl, ?_⟩
    have e1 : (if j < i then j else i) = min i j := by split <;> omega
    rw [e1]
    exact F.here e (.int _) q
  · obtain ⟨v, rfl, r⟩ := hs1 rx
    obtain ⟨a, xs, rfl, h1, r1⟩ := r.list e
    obtain ⟨ns, en, hne, q⟩ := withO_ok q
    have ex := intsD_ok en r1
    subst ex
    refine .inr ⟨a, ns, rfl, Evl.sq_of h1, List.length_pos_iff.mpr hne, fun m hm hall => ?_⟩
    obtain ⟨g1, g2⟩ := minI_mem hne
    have : m = minI ns := Int.le_antisymm (hall _ g1) (g2 m hm)
    rw [this]
    exact F.here e (.int _) q
  · exact q.elim
def gSum : GA := fun ds k => match ds with
  | [.list l] => withO (intsD l) fun ns => k (.int ns.sum)
  | _ => False
theorem o_sum (hc : X.calm = true) : OpC X (.builtin "sum") gSum := by
  refine ⟨_, cr_sum hc, fun xs Hf H ds k Q e rx q F => ?_⟩
  unfold gSum at q
  split at q
  · obtain ⟨v, rfl, r⟩ := hs1 rx
    obtain ⟨a, xs, rfl, h1, r1⟩ := r.list e
    obtain ⟨ns, en, q⟩ := withO_ok q
    have ex := intsD_ok en r1
    subst ex
    exact ⟨a, ns, rfl, Evl.sq_of h1, F.here e (.int _) q⟩
  · exact q.elim
def gAll : GA := fun ds k => match ds with
  | [.list l] => withO (boolsD l) fun ns => k (.bool (ns.all id))
  | _ => False
def gAny : GA := fun ds k => match ds with
  | [.list l] => withO (boolsD l) fun ns => k (.bool (ns.any id))
  | _ => False
theorem o_all (hc : X.calm = true) : OpC X (.builtin "all") gAll := by
  refine ⟨_, cr_all hc, fun xs Hf H ds k Q e rx q F => ?_⟩
  unfold gAll at q
  split at q
  · obtain ⟨v, rfl, r⟩ := hs1 rx
    obtain ⟨a, xs, rfl, h1, r1⟩ := r.list e
    obtain ⟨ns, en, q⟩ := withO_ok q
    have ex := boolsD_ok en r1
    subst ex
    exact ⟨a, ns, rfl, Evl.sq_of h1, F.here e (.bl _) q⟩
  · exact q.elim
theorem o_any (hc : X.calm = true) : OpC X (.builtin "any") gAny := by
  refine ⟨_, cr_any hc, fun xs Hf H ds k Q e rx q F => ?_⟩
  unfold gAny at q
  split at q
  · obtain ⟨v, rfl, r⟩ := hs1 rx
    obtain ⟨a, xs, rfl, h1, r1⟩ := r.list e
    obtain ⟨ns, en, q⟩ := withO_ok q
    have ex := boolsD_ok en r1
    subst ex
    exact ⟨a, ns, rfl, Evl.sq_of h1, F.here e (.bl _) q⟩
  · exact q.elim
def gInt : GA := fun ds k => match ds with
  | [.int i] => k (.int i)
  | [.bool b] => k (.int (if b = true then 1 else 0))
  | [.str z] => z.length ≤ 640 ∧ withO (PySem.intText? z) fun n => k (.int n)
  | _ => False
theorem o_int : OpC X (.type "int") gInt := by
  refine ⟨_, callOr (call_int1 (X := X)) (call_int_str (X := X)), fun xs Hf H ds k Q e rx q F => ?_⟩
  unfold gInt at q
  split at q
  · obtain ⟨v, rfl, r⟩ := hs1 rx
    rw [r.int]
    exact .inl (.inl ⟨_, rfl, F.here e (.int _) q⟩)
  · obtain ⟨v, rfl, r⟩ := hs1 rx
    rw [r.bl]
    exact .inl (.inr ⟨_, rfl, F.here e (.int _) q⟩)
  · obtain ⟨v, rfl, r⟩ := hs1 rx
    rw [r.str]
    obtain ⟨n, en, q2⟩ := withO_ok q.2
    exact .inr ⟨_, n, rfl, en, q.1, F.here e (.int _) q2⟩
  · exact q.elim
def gStr : GA := fun ds k => match ds with
  | [.int i] => i.natAbs.log2 < 1920 ∧ k (.str (toString i))
  | _ => False
theorem o_str : OpC X (.type "str") gStr := by
  refine ⟨_, call_str_int (X := X), fun xs Hf H ds k Q e rx q F => ?_⟩
  unfold gStr at q
  split at q
  · obtain ⟨v, rfl, r⟩ := hs1 rx
    rw [r.int]
    exact ⟨_, rfl, q.1, F.here e (.str _) q.2⟩
  · exact q.elim
def gListL : GLA := fun ds k => match ds with
  | [.list l] => k l
  | [.tuple l] => k l
  | _ => False
theorem o_listL : OpLC X (.type "list") gListL := by
  refine ⟨_, call_list_of (X := X), fun xs Hf H ds k Q e rx q F => ?_⟩
  unfold gListL at q
  split at q
  · obtain ⟨v, rfl, r⟩ := hs1 rx
    obtain ⟨a, xs, rfl, h1, r1⟩ := r.list e
    exact ⟨a, xs, rfl, .inl (Evl.sq_of h1), fun p hp => F p _ _ Hf H (.refl e) hp r1 q⟩
  · obtain ⟨v, rfl, r⟩ := hs1 rx
    obtain ⟨a, xs, rfl, h1, r1⟩ := r.tup
    exact ⟨a, xs, rfl, .inr (Evl.ex_t e h1), fun p hp => F p _ _ Hf H (.refl e) hp r1 q⟩
  · exact q.elim
def gTuple : GA := fun ds k => match ds with
  | [.list l] => k (.tuple l)
  | [.tuple l] => k (.tuple l)
  | _ => False
theorem o_tuple : OpC X (.type "tuple") gTuple := by
  refine ⟨_, call_tuple_of (X := X), fun xs Hf H ds k Q e rx q F => ?_⟩
  unfold gTuple at q
  split at q
  · obtain ⟨v, rfl, r⟩ := hs1 rx
    obtain ⟨a, xs, rfl, h1, r1⟩ := r.list e
    exact ⟨a, xs, rfl, .inl ⟨Evl.sq_of h1, fun p hp => F.newT e r1 hp q⟩⟩
  · obtain ⟨v, rfl, r⟩ := hs1 rx
    obtain ⟨a, xs, rfl, h1, r1⟩ := r.tup
    exact ⟨a, xs, rfl, .inr ⟨Evl.ex_t e h1, F.here e (.tup h1 r1) q⟩⟩
  · exact q.elim
/-- sorted, of ints -/
def gSortL : GLA := fun ds k => match ds with
  | [.list l] => withO (intsD l) fun ns => ∀ ms : List Int, ms.Perm ns → ms.Pairwise (· ≤ ·) → k (ms.map .int)
  | _ => False
theorem rpInts {K : PySem.W.Frag} {H : Hp} : ∀ ns : List Int, RpA K H (ns.map V.int) (ns.map .int)
  | [] => .nil
  | n :: ns => .cons (.int n) (rpInts ns)
theorem o_sortL : OpLC X (.builtin "sorted") gSortL := by
  refine ⟨_, cr_sortedI (X := X), fun xs Hf H ds k Q e rx q F => ?_⟩
  unfold gSortL at q
  split at q
  · obtain ⟨v, rfl, r⟩ := hs1 rx
    obtain ⟨a, xs, rfl, h1, r1⟩ := r.list e
    obtain ⟨ns, en, q⟩ := withO_ok q
    have ex := intsD_ok en r1
    subst ex
    exact ⟨a, ns, rfl, Evl.sq_of h1, fun ms p h2 h3 hp => F p _ _ Hf H (.refl e) hp (rpInts ms) (q ms h2 h3)⟩
  · exact q.elim
end
end Dl

/-! the data layer, part 11: isinstance, repr, methods of lists and of texts, lists of ranges -/
namespace Dl
open PySem
open PySem.Spec
open PyProof.Rows
open L2
open Evl (Ex)
/-! ### isinstance of data -/
def tyS : D → String
  | .none => "NoneType"
  | .bool _ => "bool"
  | .int _ => "int"
  | .str _ => "str"
  | .list _ => "list"
  | .tuple _ => "tuple"
  | .dict _ => "dict"
def isiD (T : String) (d : D) : Bool := decide (tyS d = T) || (decide (T = "int") && decide (tyS d = "bool"))
def tyL : List String := ["str", "int", "list", "tuple", "bool", "dict"]
theorem kit_all : (["NoneType", "bool", "int", "str", "list", "tuple", "dict"].all fun a => tyL.all fun T => decide (kitB a T = some (decide (a = T) || (decide (T = "int") && decide (a = "bool"))))) = true := by decide +kernel
theorem tyS_mem (d : D) : tyS d ∈ ["NoneType", "bool", "int", "str", "list", "tuple", "dict"] := by cases d <;> simp [tyS]
theorem kit_isi {K : PySem.W.Frag} {T : String} (h : T ∈ tyL) (d : D) : PySem.W.kitOne K (.type (tyS d)) (.type T) = some (isiD T d) := by
  have h1 := List.all_eq_true.mp kit_all _ (tyS_mem d)
  have h2 := List.all_eq_true.mp h1 _ h
  exact kit_ty (of_decide_eq_true h2)
theorem tyx_of {K : PySem.W.Frag} {Hf H : Hp} {v : V} {d : D} (e : Ex Hf H) (r : RpH K Hf H v d) : TyX K H v (.type (tyS d)) := by
  cases r.full e with
  | non => exact .base .non
  | bl b => exact .base (.bl b)
  | int i => exact .base (.int i)
  | str s => exact .base (.str s)
  | lst h _ => exact .base (.lst h)
  | tup h _ =>
    rcases h with (h | ⟨o, h⟩) | ⟨o, its, n, h1, h2, _⟩
    · exact .base (.tup h)
    · exact .fTuple h
    · exact .kTuple h1 h2
  | dic h _ => exact .base (.dK h)
def wIsi (T : String) (we : WE) : WE := fun r k x => we r (fun y r1 => dref y r1 fun d => k (.d (.bool (isiD T d))) r1) x
def wIsi2 (T U : String) (we : WE) : WE := fun r k x => we r (fun y r1 => dref y r1 fun d => k (.d (.bool (isiD T d || isiD U d))) r1) x
section
variable {X : Cx} {W : WX} {pos p p2 p3 p4 apos cpos : Pos} {o a b e : Expr} {we wa wb : WE} {T U : String} {n name : Str}
theorem se_isi {tn : Str} (hm : X.mg "isinstance" = none) (hmT : X.mg tn = none) (hT : bootBuiltins tn = some (.type T)) (hL : T ∈ tyL) (h : SE X W e we) (hg : Gl X "isinstance" := by rfl) (hgT : Gl X tn := by rfl) (hn : tn ≠ "__name__" := by decide) (hd : (tn == ("__debug__" : Str)) = false := by decide)
    (he : starEach (e :: [.Name tn p2]) X.env = (false, eval e X.env) :: starEach [.Name tn p2] X.env := by rfl) (he2 : starEach [.Name tn p2] X.env = (false, eval (.Name tn p2) X.env) :: starEach [] X.env := by rfl) (hpl : (backTo pos (starEach [.Name tn p2] X.env)).any (·.1) = false := by rfl) :
    SE X W (.Call (.Name "isinstance" p) [e, .Name tn p2] [] pos) (wIsi T we) := by
  refine peI (pe_callB call_isi hg hm rfl (pa_cons h (pa_cons (pe_bltn (v := .ty T) hgT hmT hT rfl hn hd) pa_nil he2) he) (by decide) (by decide) he hpl) fun s H Q h => ?_
  obtain ⟨am, Hf, r, k, x, S, hw, hk, hx⟩ := h
  refine ⟨am, Hf, r, _, x, S, hw, fun y r1 am1 Hf1 H1 v p1 S1 rr q => ?_, hx⟩
  obtain ⟨d, rd, q⟩ := dref_ok S1 rr q
  exact ⟨v, .ty T, _, _, _, rfl, .ty T, tyx_of S1.le rd, kit_isi hL d, hk (.d (.bool (isiD T d))) r1 am1 Hf1 H1 _ p1 S1 (Rp.bl _) q⟩
theorem se_isi2 {tn un : Str} {tk} (hm : X.mg "isinstance" = none) (hmT : X.mg tn = none) (hmU : X.mg un = none) (hT : bootBuiltins tn = some (.type T)) (hU : bootBuiltins un = some (.type U)) (hL : T ∈ tyL) (hL2 : U ∈ tyL) (h : SE X W e we)
    (hg : Gl X "isinstance" := by rfl) (hgT : Gl X tn := by rfl) (hgU : Gl X un := by rfl) (hn : tn ≠ "__name__" := by decide) (hd : (tn == ("__debug__" : Str)) = false := by decide) (hn2 : un ≠ "__name__" := by decide) (hd2 : (un == ("__debug__" : Str)) = false := by decide)
    (he : starEach (e :: [.Tuple [.Name tn p2, .Name un p3] tk p4]) X.env = (false, eval e X.env) :: starEach [.Tuple [.Name tn p2, .Name un p3] tk p4] X.env := by rfl)
    (he2 : starEach [.Tuple [.Name tn p2, .Name un p3] tk p4] X.env = (false, eval (.Tuple [.Name tn p2, .Name un p3] tk p4) X.env) :: starEach [] X.env := by rfl)
    (he3 : starEach [.Name tn p2, .Name un p3] X.env = (false, eval (.Name tn p2) X.env) :: starEach [.Name un p3] X.env := by rfl) (he4 : starEach [.Name un p3] X.env = (false, eval (.Name un p3) X.env) :: starEach [] X.env := by rfl)
    (hpl : (backTo pos (starEach [.Tuple [.Name tn p2, .Name un p3] tk p4] X.env)).any (·.1) = false := by rfl) :
    SE X W (.Call (.Name "isinstance" p) [e, .Tuple [.Name tn p2, .Name un p3] tk p4] [] pos) (wIsi2 T U we) := by
  refine peI (pe_callB call_isiT hg hm rfl (pa_cons h (pa_cons (pe_tup (pa_cons (pe_bltn (v := .ty T) hgT hmT hT rfl hn hd) (pa_cons (pe_bltn (v := .ty U) hgU hmU hU rfl hn2 hd2) pa_nil he4) he3)) pa_nil he2) he) (by decide) (by decide) he hpl) fun s H Q h => ?_
  obtain ⟨am, Hf, r, k, x, S, hw, hk, hx⟩ := h
  refine ⟨am, Hf, r, _, x, S, hw, fun y r1 am1 Hf1 H1 v p1 S1 rr q => ?_, hx⟩
  obtain ⟨d, rd, q⟩ := dref_ok S1 rr q
  refine ⟨by show 2 ≤ sizeLine; rw [sizeLine_eq]; decide, fun tp htp => ?_⟩
  have g : Grow Hf1 H1 Hf1 (upd H1 tp (.tup [.ty T, .ty U])) := .lost S1.le htp
  have S2 := S1.grow g
  have e1 : PySem.W.kitAny X.K (.type (tyS d)) [.type T, .type U] = some (isiD T d || isiD U d) := by
    refine kitAny_cons (kit_isi hL d) (fun hf => ?_) fun ht => by rw [ht]; rfl
    refine kitAny_cons (b := isiD U d) (kit_isi hL2 d) (fun hf2 => ?_) fun ht => by rw [ht, Bool.or_true]
    rw [hf, hf2]
    rfl
  have rd2 : RpH X.K Hf1 (upd H1 tp (.tup [.ty T, .ty U])) v d := by
    rcases rd with rd | ⟨a, xs, ds, z1, z2, z3, z4⟩
    · exact .inl rd
    · exact .inr ⟨a, xs, ds, z1, z2, g.lh _ _ z3, z4⟩
  exact ⟨v, tp, _, _, _, _, rfl, upd_same, .cons (.ty T) (.cons (.ty U) .nil), tyx_of S2.le rd2, e1, hk (.d (.bool _)) r1 am1 Hf1 _ _ (p1.trans g.stp) S2 (Rp.bl _) q⟩
end
/-! ### repr of data -/
mutual
theorem noDict : ∀ {d : D}, d.canLay0 = true → d.hasDict = false
  | .none, _ => by simp [PyData.hasDict]
  | .bool _, _ => by simp [PyData.hasDict]
  | .int _, _ => by simp [PyData.hasDict]
  | .str _, _ => by simp [PyData.hasDict]
  | .list _, h => by
    rw [PyData.hasDict]
    exact noDictA (by simpa [PyData.canLay0] using h)
  | .tuple _, h => by
    rw [PyData.hasDict]
    exact noDictA (by simpa [PyData.canLay0] using h)
  | .dict _, h => by simp [PyData.canLay0] at h
theorem noDictA : ∀ {d : List D}, PyData.canLayAll0 d = true → PyData.hasDictAll d = false
  | [], _ => by simp [PyData.hasDictAll]
  | d :: ds, h => by
    have h' : (d.canLay0 && PyData.canLayAll0 ds) = true := by simpa [PyData.canLayAll0] using h
    rw [Bool.and_eq_true] at h'
    rw [PyData.hasDictAll, noDict h'.1, noDictA h'.2]
    rfl
end
def gRepr : GA := fun ds k => match ds with
  | [d] => shp d = true ∧ d.showable = true ∧ d.shown.length ≤ sizeLine ∧ k (.str d.shown)
  | _ => False
section
variable {X : Cx}
theorem call_reprD (hg : X.A.guards = some []) (hu : X.A.units + 66 < cLine) : CallR X (.builtin "repr") (fun xs H Q => ∃ (v : V) (d : D), xs = [v] ∧ Dp X.K H v d ∧ shp d = true ∧ d.showable = true ∧ d.shown.length ≤ sizeLine ∧ Q (.str d.shown) H) := by
  intro pins s σ H xs us Q I rx h
  obtain ⟨v, d, rfl, hd, sh, sw, sz, q⟩ := h
  obtain ⟨u, rfl, ru⟩ := rx.one
  have hdp : d.depth ≤ 64 := by
    have h1 : (d.canLay0 && decide (d.depth ≤ 64)) = true := sh
    rw [Bool.and_eq_true] at h1
    exact of_decide_eq_true h1.2
  have hcl : d.canLay0 = true := SeqAt.canLay_of_shaped sh
  have go : ∀ t' k, EP X pins σ Q (.str d.shown t') { s with toks := k } := fun t' k => ⟨.str d.shown, H, I.tok k, ⟨t', rfl⟩, q⟩
  have ref : ∀ {a : Addr}, u = .ref a → wpAny (model X.prog X.w) X.A (call (.builtin "repr") [u]) (EP X pins σ Q) X.xe s := fun {a} eu => by
    subst eu
    obtain ⟨as, r⟩ := Dp.reads I d v _ hd ru
    refine PySem.repr_of_reads' r sw (fun z => ?_) hg (by omega) (fun _ _ h => h) (fun h' u tk hk => ?_) sz
    · rw [noDict hcl] at z
      cases z
    · exact ⟨.str d.shown, H, I.kept hk, ⟨u, rfl⟩, q⟩
  cases hd with
  | non =>
    cases ru
    exact PySem.P.repr_of_none (go _ _)
  | bl b =>
    cases ru
    exact PySem.P.repr_of_bool (go _ _)
  | int i =>
    obtain ⟨t, rfl⟩ := ru
    exact PySem.P.repr_of_int (by simpa [PyData.showable] using sw) (go _ _)
  | str x =>
    obtain ⟨t, rfl⟩ := ru
    exact PySem.P.repr_of_str (go _ _) sz
  | lst h1 h2 =>
    cases ru
    exact ref rfl
  | tup h1 h2 =>
    cases ru
    exact ref rfl
theorem o_repr (hg : X.A.guards = some []) (hu : X.A.units + 66 < cLine) : OpC X (.builtin "repr") gRepr := by
  refine ⟨_, call_reprD hg hu, fun xs Hf H ds k Q e rx q F => ?_⟩
  unfold gRepr at q
  split at q
  · obtain ⟨v, rfl, r⟩ := hs1 rx
    exact ⟨v, _, rfl, Rp.dp (SeqAt.canLay_of_shaped q.1) (r.full e), q.1, q.2.1, q.2.2.1, F.here e (.str _) q.2.2.2⟩
  · exact q.elim
/-! ### methods that change a list -/
def uAppend : GU := fun cur ds k => match ds with
  | [d] => cur.length < sizeLine ∧ k .none (cur ++ [d])
  | _ => False
theorem o_append : OpU X "list.append" uAppend := by
  refine ⟨_, mt_append (X := X), fun a cur xs Hf H dc ds k Q e ha rc rx q F => ?_⟩
  unfold uAppend at q
  split at q
  · cases rx with
    | cons r t =>
      cases t
      exact ⟨a, cur, _, rfl, rfl, ha, by rw [rc.length]; exact q.1, F _ _ _ _ .non (rc.append (.cons r .nil)) q.2⟩
  · exact q.elim
def uExtend : GU := fun cur ds k => match ds with
  | [.list l] => cur.length + l.length ≤ sizeLine ∧ k .none (cur ++ l)
  | _ => False
theorem o_extend : OpU X "list.extend" uExtend := by
  refine ⟨_, mt_extend (X := X), fun a cur xs Hf H dc ds k Q e ha rc rx q F => ?_⟩
  unfold uExtend at q
  split at q
  · cases rx with
    | cons r t =>
      cases t
      cases r with
      | lst h1 h2 => exact ⟨a, _, cur, _, rfl, rfl, ha, e _ _ h1, by rw [rc.length, h2.length]; exact q.1, F _ _ _ _ .non (rc.append h2) q.2⟩
  · exact q.elim
theorem RpA.dropLast {K : PySem.W.Frag} {H : Hp} {vs : List V} {ds : List D} (r : RpA K H vs ds) : RpA K H vs.dropLast ds.dropLast := by
  rw [List.dropLast_eq_take, List.dropLast_eq_take, r.length]
  exact r.take _
theorem RpA.erase {K : PySem.W.Frag} {H : Hp} : ∀ (n : Nat) {vs : List V} {ds : List D}, RpA K H vs ds → RpA K H (vs.eraseIdx n) (ds.eraseIdx n)
  | _, _, _, .nil => .nil
  | 0, _, _, .cons _ r => r
  | n + 1, _, _, .cons h r => .cons h (r.erase n)
theorem callMOr {id : String} {r r' : V → List V → Hp → VK → Prop} (h : MtR X id r) (h' : MtR X id r') : MtR X id (fun x xs H Q => r x xs H Q ∨ r' x xs H Q) := fun pins s σ H x xs v us Q I rx rv q => q.elim (fun q => h pins s σ H x xs v us Q I rx rv q) fun q => h' pins s σ H x xs v us Q I rx rv q
def uPop : GU := fun cur ds k => match ds with
  | [] => match cur.getLast? with
    | some d => k d cur.dropLast
    | none => False
  | [.int i] => (-(2 ^ 62) ≤ i ∧ i < 2 ^ 62) ∧ match ixN cur.length i with
    | some j => match cur[j]? with
      | some d => k d (cur.eraseIdx j)
      | none => False
    | none => False
  | _ => False
theorem o_pop : OpU X "list.pop" uPop := by
  refine ⟨_, callMOr (mt_pop (X := X)) (mt_popAt (X := X)), fun a cur xs Hf H dc ds k Q e ha rc rx q F => ?_⟩
  unfold uPop at q
  split at q
  · cases rx
    rw [List.getLast?_eq_getElem?] at q
    split at q
    · rename_i d hd
      obtain ⟨v, hv, rv⟩ := rc.getD hd
      exact .inl ⟨a, cur, v, rfl, rfl, ha, by rw [rc.length]; exact hv, F _ _ _ _ rv rc.dropLast q⟩
    · exact q.elim
  · cases rx with
    | cons r t =>
      cases t
      cases r
      obtain ⟨⟨b1, b2⟩, q⟩ := q
      split at q
      · rename_i j hj
        split at q
        · rename_i d hd
          obtain ⟨v, hv, rv⟩ := rc.getD hd
          exact .inr ⟨a, cur, _, j, v, rfl, rfl, ha, by omega, by omega, by rw [rc.length]; exact (ixN_seq hj).1, hv, F _ _ _ _ rv (rc.erase j) q⟩
        · exact q.elim
      · exact q.elim
  · exact q.elim
def uInsert : GU := fun cur ds k => match ds with
  | [.int i, d] => cur.length < sizeLine ∧ 0 ≤ i ∧ i < 2 ^ 63 ∧ k .none (cur.take i.toNat ++ [d] ++ cur.drop i.toNat)
  | _ => False
theorem o_insert : OpU X "list.insert" uInsert := by
  refine ⟨_, mt_insert (X := X), fun a cur xs Hf H dc ds k Q e ha rc rx q F => ?_⟩
  unfold uInsert at q
  split at q
  · cases rx with
    | cons r t =>
      cases r
      cases t with
      | cons r2 t =>
        cases t
        exact ⟨a, cur, _, _, rfl, rfl, ha, by rw [rc.length]; exact q.1, q.2.1, q.2.2.1, F _ _ _ _ .non (((rc.take _).append (.cons r2 .nil)).append (rc.drop _)) q.2.2.2⟩
  · exact q.elim
def uClear : GU := fun cur ds k => match ds with
  | [] => k .none []
  | _ => False
theorem o_clear : OpU X "list.clear" uClear := by
  refine ⟨_, mt_clear (X := X), fun a cur xs Hf H dc ds k Q e ha rc rx q F => ?_⟩
  unfold uClear at q
  split at q
  · cases rx
    exact ⟨a, cur, rfl, rfl, ha, F _ _ _ _ .non .nil q⟩
  · exact q.elim
/-! ### methods of texts -/
def mJoin : GM := fun x ds k => match x, ds with
  | .str a, [.list l] => withO (strsD l) fun ys => (ys.map (·.length)).sum + ys.length * a.length ≤ 16777216 ∧ k (.str (Txt.join a ys))
  | .str a, [.tuple l] => withO (strsD l) fun ys => (ys.map (·.length)).sum + ys.length * a.length ≤ 16777216 ∧ k (.str (Txt.join a ys))
  | _, _ => False
theorem o_join : OpM X "str.join" mJoin := by
  refine ⟨_, mt_join (X := X), fun x xs Hf H dx ds k Q e rx rs q F => ?_⟩
  unfold mJoin at q
  split at q
  · obtain ⟨v, rfl, r⟩ := hs1 rs
    obtain ⟨a, ys, rfl, h1, r1⟩ := r.list e
    obtain ⟨ns, en, q⟩ := withO_ok q
    have ex := strsD_ok en r1
    subst ex
    rw [rx.str]
    exact ⟨_, a, ns, rfl, rfl, .inl (Evl.sq_of h1), q.1, F.here e (.str _) q.2⟩
  · obtain ⟨v, rfl, r⟩ := hs1 rs
    obtain ⟨a, ys, rfl, h1, r1⟩ := r.tup
    obtain ⟨ns, en, q⟩ := withO_ok q
    have ex := strsD_ok en r1
    subst ex
    rw [rx.str]
    exact ⟨_, a, ns, rfl, rfl, .inr (Evl.ex_t e h1), q.1, F.here e (.str _) q.2⟩
  · exact q.elim
def mUpper : GM := fun x ds k => match x, ds with
  | .str a, [] => a.length ≤ 5592405 ∧ k (.str (Txt.upper a))
  | _, _ => False
theorem o_upper : OpM X "str.upper" mUpper := by
  refine ⟨_, mt_upper (X := X), fun x xs Hf H dx ds k Q e rx rs q F => ?_⟩
  unfold mUpper at q
  split at q
  · cases rs
    rw [rx.str]
    exact ⟨_, rfl, rfl, q.1, F.here e (.str _) q.2⟩
  · exact q.elim
/-! ### list(range(..)), tuple(range(..)) -/
def rgD (a b : Int) : List D := (List.range (b - a).toNat).map fun i => .int (a + (i : Nat))
theorem rp_rg {K : PySem.W.Frag} {H : Hp} (a b : Int) : RpA K H (rgV a b) (rgD a b) := by
  unfold rgV rgD
  generalize List.range (b - a).toNat = l
  induction l with
  | nil => exact .nil
  | cons i l ih => exact .cons (.int _) ih
end
abbrev WRg := Env → (Int → Int → Env → Prop) → XQ → Prop
def wRg1 (w : WE) : WRg := fun r k x => w r (fun y r1 => isI y fun n => k 0 n r1) x
def wRg2 (w u : WE) : WRg := fun r k x => w r (fun y r1 => u r1 (fun z r2 => isI y fun i => isI z fun j => k i j r2) x) x
def wLstRg (w : WRg) : WL := fun r k x => w r (fun a b r1 => RgOk a b ∧ k (rgD a b) r1) x
def wTupRg (w : WRg) : WE := fun r k x => w r (fun a b r1 => RgOk a b ∧ k (.d (.tuple (rgD a b))) r1) x
section
variable {X : Cx} {W : WX} {pos p p2 p3 p4 apos cpos : Pos} {o a b e : Expr} {we wa wb : WE}
def tRg (K : PySem.W.Frag) (mg : Str → Option Value) (W : WX) (w : WRg) : L2.St → Hp → (Int → Int → Hp → Prop) → Prop := fun s H Q => ∃ am Hf r k x, Sim K mg am Hf H s r ∧ w r k x ∧
  (∀ i j r' am' Hf' H', Stp am Hf H am' Hf' H' → Sim K mg am' Hf' H' s r' → k i j r' → Q i j H') ∧ XC K mg W x am Hf H s
abbrev SRg (X : Cx) (W : WX) (e : Expr) (w : WRg) : Prop := PRg X e (tRg X.K X.mg W w)
theorem sr_1 (hm : X.mg "range" = none) (ha : SE X W a wa) (hg : Gl X "range" := by rfl) (na : starEach [a] X.env = (false, eval a X.env) :: starEach [] X.env := by rfl) : SRg X W (.Call (.Name "range" p) [a] [] pos) (wRg1 wa) := by
  intro pins s σ H Q I h
  refine prg_1 hg hm ha na pins s σ H Q I ?_
  obtain ⟨am, Hf, r, k, x, S, hw, hk, hx⟩ := h
  refine ⟨am, Hf, r, _, x, S, hw, fun y r1 am1 Hf1 H1 v p1 S1 rr q => ?_, hx⟩
  obtain ⟨n, rfl, q⟩ := isI_ok rr q
  exact ⟨n, rfl, hk 0 n r1 am1 Hf1 H1 p1 S1 q⟩
theorem sr_2 (hm : X.mg "range" = none) (ha : SE X W a wa) (hb : SE X W b wb) (hg : Gl X "range" := by rfl) (na : starEach [a, b] X.env = (false, eval a X.env) :: starEach [b] X.env := by rfl)
    (nb : starEach [b] X.env = (false, eval b X.env) :: starEach [] X.env := by rfl) (hp : (backTo pos (starEach [b] X.env)).any (·.1) = false := by rfl) : SRg X W (.Call (.Name "range" p) [a, b] [] pos) (wRg2 wa wb) := by
  intro pins s σ H Q I h
  refine prg_2 hg hm ha hb na nb hp pins s σ H Q I ?_
  obtain ⟨am, Hf, r, k, x, S, hw, hk, hx⟩ := h
  refine ⟨am, Hf, r, _, x, S, hw, fun y r1 am1 Hf1 H1 v p1 S1 rr q => ?_, hx⟩
  refine ⟨am1, Hf1, r1, _, x, S1, q, fun z r2 am2 Hf2 H2 u p2 S2 rr2 q => ?_, hx.next p1⟩
  obtain ⟨i, rfl, q⟩ := isI_ok (rr.mono p2) q
  obtain ⟨j, rfl, q⟩ := isI_ok rr2 q
  exact ⟨i, j, rfl, rfl, hk i j r2 am2 Hf2 H2 (p1.trans p2) S2 q⟩
theorem sl_rg {w : WRg} (hc : X.calm = true) (hm : X.mg "list" = none) (h : SRg X W e w) (hg : Gl X "list" := by rfl) (na : starEach [e] X.env = (false, eval e X.env) :: starEach [] X.env := by rfl) : SL X W (.Call (.Name "list" p) [e] [] pos) (wLstRg w) := by
  refine peI (pe_listRg hc hg hm h na) fun s H Q q => ?_
  obtain ⟨am, Hf, r, k, x, S, hw, hk, hx⟩ := q
  refine ⟨am, Hf, r, _, x, S, hw, fun i j r1 am1 Hf1 H1 p1 S1 q => ?_, hx⟩
  refine ⟨q.1, fun p hp => ?_⟩
  exact folL_at S1 p1 hk p _ _ Hf1 H1 (.refl S1.le) hp (rp_rg i j) q.2
theorem se_tupRg {w : WRg} (hc : X.calm = true) (hm : X.mg "tuple" = none) (h : SRg X W e w) (hg : Gl X "tuple" := by rfl) (na : starEach [e] X.env = (false, eval e X.env) :: starEach [] X.env := by rfl) : SE X W (.Call (.Name "tuple" p) [e] [] pos) (wTupRg w) := by
  refine peI (pe_tupRg hc hg hm h na) fun s H Q q => ?_
  obtain ⟨am, Hf, r, k, x, S, hw, hk, hx⟩ := q
  refine ⟨am, Hf, r, _, x, S, hw, fun i j r1 am1 Hf1 H1 p1 S1 q => ?_, hx⟩
  refine ⟨q.1, fun p hp => ?_⟩
  have g : Grow Hf1 H1 (upd Hf1 p (.tup (rgV i j))) (upd H1 p (.tup (rgV i j))) := .new S1.le hp
  exact hk (.d (.tuple (rgD i j))) r1 am1 _ _ _ (p1.trans g.stp) (S1.grow g) (Rp.tup (Evl.st_of upd_same) (rp_rg i j)) q.2
/-! ### a list backwards -/
def wRevL (we : WE) : WL := fun r k x => we r (fun y r1 => dref y r1 fun d => match d with
  | .list ds => k ds.reverse r1
  | _ => False) x
theorem sl_rev {k : Nat} {p1 p2 p3 pos : Pos} (h : SE X W e we) : SL X W (.Subscript e (.Slice none none (some (.UnaryOp .USub (.Constant (.int 1) k p1) p2)) p3) pos) (wRevL we) := by
  refine peI (pe_revL h) fun s H Q q => ?_
  obtain ⟨am, Hf, r, k, x, S, hw, hk, hx⟩ := q
  refine ⟨am, Hf, r, _, x, S, hw, fun y r1 am1 Hf1 H1 v p1 S1 rr q => ?_, hx⟩
  obtain ⟨d, rd, q⟩ := dref_ok S1 rr q
  split at q
  · obtain ⟨a, xs, rfl, h1, h2⟩ := rd.list S1.le
    exact ⟨a, xs, rfl, Evl.sq_of h1, fun p hp => folL_at S1 p1 hk p _ _ Hf1 H1 (.refl S1.le) hp h2.reverse q⟩
  · exact q.elim
end
end Dl

/-! the data layer, part 12: small things that the printed texts lean on -/
namespace Dl
open PySem
open PySem.Spec
open PyProof.Rows
open L2
def low : List Nat := [97, 98, 99, 100, 101, 102, 103, 104, 105, 106, 107, 108, 109, 110, 111, 112, 113, 114, 115, 116, 117, 118, 119, 120, 121, 122]
def upp : List Nat := [65, 66, 67, 68, 69, 70, 71, 72, 73, 74, 75, 76, 77, 78, 79, 80, 81, 82, 83, 84, 85, 86, 87, 88, 89, 90]
abbrev cLow : Str := S low
abbrev cUp : Str := S upp
def mCount : GM := fun x ds k => match x, ds with
  | .str a, [.str b] => k (.int (Txt.count a b))
  | _, _ => False
theorem o_scount {X : Cx} : OpM X "str.count" mCount := by
  refine ⟨_, mt_count (X := X), fun x xs Hf H dx ds k Q e rx rs q F => ?_⟩
  unfold mCount at q
  split at q
  · obtain ⟨v, rfl, r⟩ := hs1 rs
    rw [rx.str, r.str]
    exact ⟨_, _, rfl, rfl, F.here e (.int _) q⟩
  · exact q.elim
theorem hu66 {k : Nat} {A : Around} (hr : Room k A) : A.units + 66 < cLine := by
  have := hr.un
  omega
def wCallKP (n np m : Nat) (G : FS) (o : List Nat) (wr wk : WA) : WE := fun r kk xx => wCallK n G o (fun r k x => wr r (fun ys r1 => ys.length = np ∧ k ys r1) x) (fun r k x => wk r (fun zs r1 => zs.length = m ∧ k zs r1) x) r kk xx
/-- a tuple of texts that the module holds -/
theorem rp_strs {K : PySem.W.Frag} {a : Addr} {dd : Option Addr} {n : Nat} {sl : Array (Option Value)} {its : List Value} {zs : List Str} (h : K.lookup a = some ⟨.type "tuple", dd, .seq its.toArray n, sl⟩) (hz : its.length ≤ sizeLine) (hi : Vals (zs.map V.str) its) :
    ∀ H, Rp K H (.ref a) (.tuple (zs.map .str)) := fun H => by
  refine .tup (xs := zs.map V.str) (.inr ⟨_, its.toArray, n, h, rfl, rfl, by rw [List.size_toArray]; exact hz, by simpa using hi⟩) ?_
  clear h hz hi
  induction zs with
  | nil => exact .nil
  | cons z zs ih => exact .cons (.str z) ih
section
variable {X : Cx} {W : WX} {k n m np : Nat} {f : Addr} {fd : FuncData} {ps ks : List Str} {G : FS} {x : Str} {p pos kpos : Pos} {e : Expr} {es : List Expr} {kws : List Keyword} {wr wk : WA} {we : WE} {o : List Nat}
/-- the calls again, with the counts apart -/
theorem sc_call (F : FnG X.prog X.w X.K X.mg X.base k f fd ps G) (hr : Room k X.A) (hgd : X.A.guards = some []) (tk : Takes X W) (hm : X.mg x = some (.ref f)) (hkp : PySem.W.keepIn X.K (.ref f) = true) (hb : Binds X.K fd ps []) (ha : SA X W (e :: es) wr) (hn : ps.length = n := by rfl) (hg : Gl X x := by rfl)
    (hdb : (x == ("__debug__" : Str)) = false := by decide) (he : starEach (e :: es) X.env = (false, eval e X.env) :: starEach es X.env := by rfl) (hpl : (backTo pos (starEach es X.env)).any (·.1) = false := by rfl) :
    SE X W (.Call (.Name x p) (e :: es) [] pos) (wCall n G wr) := by
  subst hn
  exact se_call F hr hgd tk hm hkp hb ha hg hdb he hpl
theorem sc_call0 (F : FnG X.prog X.w X.K X.mg X.base k f fd ps G) (hr : Room k X.A) (hgd : X.A.guards = some []) (tk : Takes X W) (hm : X.mg x = some (.ref f)) (hkp : PySem.W.keepIn X.K (.ref f) = true) (hb : Binds X.K fd ps []) (h0 : ps = []) (hg : Gl X x := by rfl)
    (hdb : (x == ("__debug__" : Str)) = false := by decide) : SE X W (.Call (.Name x p) [] [] pos) (wCall 0 G wNil) := by
  subst h0
  exact se_call0 F hr hgd tk hm hkp hb rfl hg hdb
theorem sc_callK (F : FnG X.prog X.w X.K X.mg X.base k f fd ps G) (hr : Room k X.A) (hgd : X.A.guards = some []) (tk : Takes X W) (hm : X.mg x = some (.ref f)) (hkp : PySem.W.keepIn X.K (.ref f) = true) (hb : KB X.K fd ps np ks o)
    (ha : SA X W (e :: es) wr) (hw : SK X W kws wk) (h1 : ps.length = n := by rfl) (h2 : ks.length = m := by rfl) (hn : (e :: es).length = np := by rfl) (hg : Gl X x := by rfl)
    (hall : (backToKw pos (keywordEach kws X.env)).all (·.1.isSome) = true := by rfl) (hks : (backToKw pos (keywordEach kws X.env)).filterMap (·.1) = ks := by rfl)
    (hdb : (x == ("__debug__" : Str)) = false := by decide) (he : starEach (e :: es) X.env = (false, eval e X.env) :: starEach es X.env := by rfl)
    (hpl : ((backTo pos (starEach (e :: es) X.env)).any (·.1) || (backToKw pos (keywordEach kws X.env)).any (·.1.isNone)) = false := by rfl) : SE X W (.Call (.Name x p) (e :: es) kws pos) (wCallKP n np m G o wr wk) := by
  subst h1 h2
  exact se_callK np F hr hgd tk hm hkp hb ha hw hn hg hall hks hdb he hpl
theorem sc_callK0 (F : FnG X.prog X.w X.K X.mg X.base k f fd ps G) (hr : Room k X.A) (hgd : X.A.guards = some []) (tk : Takes X W) (hm : X.mg x = some (.ref f)) (hkp : PySem.W.keepIn X.K (.ref f) = true) (hb : KB X.K fd ps 0 ks o)
    (hw : SK X W kws wk) (h1 : ps.length = n := by rfl) (h2 : ks.length = m := by rfl) (hg : Gl X x := by rfl)
    (hall : (backToKw pos (keywordEach kws X.env)).all (·.1.isSome) = true := by rfl) (hks : (backToKw pos (keywordEach kws X.env)).filterMap (·.1) = ks := by rfl)
    (hdb : (x == ("__debug__" : Str)) = false := by decide) (hpl : ((backTo pos (starEach [] X.env)).any (·.1) || (backToKw pos (keywordEach kws X.env)).any (·.1.isNone)) = false := by rfl) :
    SE X W (.Call (.Name x p) [] kws pos) (wCallK0 n m G o wk) := by
  subst h1 h2
  exact se_callK0 F hr hgd tk hm hkp hb hw hg hall hks hdb hpl
theorem sl_lcw {elt tg iter : Expr} {ifs : List Expr} {scope : Scope} (own : List (Str × Nat)) {t : Tg} {wi : WI} {wt : WT} {vs : List Nat} (hc : X.calm = true) (hN : X.N.Nodup) (hi : SI X W tg iter wi) (ok : blkC X.N X.env.scope scope own = true)
    (hg : ∀ (s : Shared) (H : Hp) (C : Addr) (cl : List (Str × Addr)) (fp : List Addr), SG (X.blk s H scope (compEnvC scope cl C X.env) fp) tg t)
    (ht : ∀ (s : Shared) (H : Hp) (C : Addr) (cl : List (Str × Addr)) (fp : List Addr), STs (X.blk s H scope (compEnvC scope cl C X.env) fp) ifs wt)
    (he : ∀ (s : Shared) (H : Hp) (C : Addr) (cl : List (Str × Addr)) (fp : List Addr), SE (X.blk s H scope (compEnvC scope cl C X.env) fp) W0 elt we)
    (hv : own.map (·.2) = vs := by rfl) (hs : ∀ i ∈ t.slots, i ∈ vs := by decide) (hf : ∀ x, foldedSetIterable iter X.env x = pure x := by intro _; rfl) :
    SL X W (.ListComp elt [⟨tg, iter, ifs, 0⟩] scope pos) (wLc t wi wt we vs) := by
  subst hv
  exact sl_lc hc hN hi ok hg ht he hs hf
theorem ps_lcw (i : Nat) {elt tg iter : Expr} {ifs : List Expr} {scope : Scope} (own : List (Str × Nat)) {t : Tg} {wi : WI} {wt : WT} {vs : List Nat} {y : Str} {spos py : Pos} (hc : X.calm = true) (hN : X.N.Nodup) (hi : SI X W tg iter wi) (ok : blkC X.N X.env.scope scope own = true)
    (hg : ∀ (s : Shared) (H : Hp) (C : Addr) (cl : List (Str × Addr)) (fp : List Addr), SG (X.blk s H scope (compEnvC scope cl C X.env) fp) tg t)
    (ht : ∀ (s : Shared) (H : Hp) (C : Addr) (cl : List (Str × Addr)) (fp : List Addr), STs (X.blk s H scope (compEnvC scope cl C X.env) fp) ifs wt)
    (he : ∀ (s : Shared) (H : Hp) (C : Addr) (cl : List (Str × Addr)) (fp : List Addr), SE (X.blk s H scope (compEnvC scope cl C X.env) fp) W0 elt we)
    (hy : X.N[i]? = some y := by rfl) (hyl : X.env.scope.names.lookup y = some .local := by rfl)
    (hsw : swapsWith (.ListComp elt [⟨tg, iter, ifs, 0⟩] scope pos) (some (.Name y py)) spos.line X.env = pure true := by rfl)
    (hv : own.map (·.2) = vs := by rfl) (hs : ∀ i ∈ t.slots, i ∈ vs := by decide) (hf : ∀ x, foldedSetIterable iter X.env x = pure x := by intro _; rfl) :
    PS X (.Assign [.Name y py] (.ListComp elt [⟨tg, iter, ifs, 0⟩] scope pos) spos) (tAsg (tL X.K X.mg W (wLc t wi wt we vs)) (gName i)) := by
  subst hv
  exact ps_lc i hc hN hi ok hg ht he hy hyl hsw hs hf
end
/-! ### a value, for good as data -/
def wFrz (we : WE) : WE := fun r k x => we r (fun y r1 => frz y r1 fun d r2 => k (.d d) r2) x
theorem se_frz {X : Cx} {W : WX} {e : Expr} {we : WE} (h : SE X W e we) : SE X W e (wFrz we) := peI h fun s H Q q => by
  obtain ⟨am, Hf, r, k, x, S, hw, hk, hx⟩ := q
  refine ⟨am, Hf, r, _, x, S, hw, fun y r1 am1 Hf1 H1 v p1 S1 rr q => ?_, hx⟩
  obtain ⟨d, r2, Hf2, p2, S2, rd, q2⟩ := frz_ok S1 rr q
  exact hk (.d d) r2 am1 Hf2 H1 v (p1.trans p2) S2 rd q2
/-! ### x, y, .. = e, e a list -/
def wUnpL (is : List Nat) (we : WE) : WS := fun r p => we r (fun y r1 => dref y r1 fun d => match d with
  | .list ds => putMany is (ds.map R.d) r1 p.nx
  | _ => False) p.ex
theorem ss_unpL {X : Cx} {W : WX} {e : Expr} {we : WE} {is : List Nat} {es : List Expr} {k : Nat} {pos tpos : Pos} (he : SE X W e we) (h : PGs X es (gNs is)) (hc : X.calm = true) (hn : (assignEach es X.env).length = is.length := by rfl) (hst : (assignEach es X.env).findIdx? (·.1) = none := by rfl)
    (hs : swapsWithSole [.Tuple es k tpos] e pos.line X.env = pure false := by rfl) (hw : swappedStores [.Tuple es k tpos] e X.env = pure none := by rfl) (h1 : (assignEach [.Tuple es k tpos] X.env).map (·.2) = [assign (.Tuple es k tpos) X.env] := by rfl) :
    SS X W (.Assign [.Tuple es k tpos] e pos) (wUnpL is we) := by
  refine psI (ps_asg he (pg_unl hc h hn hst) hs hw h1) fun Z s H h => ?_
  obtain ⟨am, Hf, r, p, S, hw, g1, g2, g3, g4, g5⟩ := h
  refine ⟨am, Hf, r, _, p.ex, S, hw, fun y r1 am1 Hf1 H1 v p1 S1 rr q => ?_, g5.at⟩
  obtain ⟨d, rd, q⟩ := dref_ok S1 rr q
  split at q
  · rename_i ds
    obtain ⟨a, xs, rfl, hx, ra⟩ := rd.list S1.le
    obtain ⟨r', S', hl, q⟩ := putMany_ok S1 (rpa_pair ra) q
    exact ⟨a, xs, rfl, Evl.sq_of hx, hl.symm, gNs_of (vs := []) hl (g1 r' am1 Hf1 H1 _ p1 S' q)⟩
  · exact q.elim
end Dl

/-! the data layer, part 13: displays of dicts, texts and tuples backwards -/
namespace Dl
open PySem
open PySem.Spec
open PyProof.Rows
open L2
open Evl (Ex)
section
variable {X : Cx} {W : WX} {pos : Pos} {e ek ev : Expr} {we wk wv : WE}
theorem se_dict0 : SE X W (.Dict [] [] pos) (wC (.dict [])) := peI pe_dnewK fun s H Q h => by
  obtain ⟨am, Hf, r, k, x, S, hw, hk, hx⟩ := h
  intro p hp
  have g : Grow Hf H (upd Hf p (.dK [])) (upd H p (.dK [])) := .new S.le hp
  exact hk (.d (.dict [])) r am _ _ _ g.stp (S.grow g) (Rp.dic upd_same .nil) hw
def keyD (y : R) (k : Key → Prop) : Prop := match y with
  | .d (.str z) => k (.inr z)
  | .d (.int i) => k (.inl i)
  | _ => False
def wDic1 (wk wv : WE) : WE := fun r k x => wk r (fun a r1 => wv r1 (fun b r2 => keyD a fun c => frz b r2 fun d r3 => k (.d (.dict [(kD c, d)])) r3) x) x
theorem keyD_ok {K : PySem.W.Frag} {mg : Str → Option Value} {am : List Addr} {Hf : Hp} {v : V} {y : R} {k : Key → Prop} (r : RelR K mg am Hf v y) (h : keyD y k) : ∃ c, v = kV c ∧ k c := by
  cases y with
  | d z =>
    cases z with
    | int b =>
      cases r
      exact ⟨.inl b, rfl, h⟩
    | str b =>
      cases r
      exact ⟨.inr b, rfl, h⟩
    | _ => exact h.elim
  | _ => exact h.elim
theorem se_dict1 (hk : SE X W ek wk) (hv : SE X W ev wv) : SE X W (.Dict [some ek] [ev] pos) (wDic1 wk wv) := by
  refine peI (pe_disp (pps_cons hk hv pps_nil) rfl rfl (by simp) (by show 1 ≤ 15; decide)) fun s H Q h => ?_
  obtain ⟨am, Hf, r, k, x, S, hw, hkk, hx⟩ := h
  intro p hp
  have g : Grow Hf H Hf (upd H p (.dK [])) := .lost S.le hp
  have hpam : p ∉ am := fun hm => S.tr p hm hp
  have hf0 : Hf p = none := Evl.fresh_back S.le hp
  refine ⟨am, Hf, r, _, x, S.grow g, hw, fun ya r1 am1 Hf1 H1 va p1 S1 ra q1 => ?_, hx.next g.stp⟩
  refine ⟨am1, Hf1, r1, _, x, S1, q1, fun yb r2 am2 Hf2 H2 vb p2 S2 rb q2 => ?_, hx.next (g.stp.trans p1)⟩
  obtain ⟨c, ec, q3⟩ := keyD_ok (ra.mono p2) q2
  obtain ⟨d, r3, Hf3, p3, S3, rd, q4⟩ := frz_ok S2 rb q3
  have pall := (p1.trans p2).trans p3
  have hold : H2 p = some (.dK []) := pall.old p _ upd_same hpam
  have hf3 : Hf3 p = none := by
    cases z : Hf3 p with
    | none => rfl
    | some o =>
      rcases pall.fz p o z with z1 | z1 | z1
      · rw [hf0] at z1
        cases z1
      · rw [upd_same] at z1
        cases z1
      · exact absurd z1 hpam
  have tot := g.stp.trans pall
  have lf : Ex Hf3 (upd Hf3 p (.dK [(c, vb)])) := Evl.Ex.new hf3
  refine ⟨hold, [(c, vb)], by rw [ec]; rfl, by simp, ?_⟩
  show Q (.ref p) (upd H2 p (.dK [(c, vb)]))
  refine hkk (.d (.dict [(kD c, d)])) r3 am2 (upd Hf3 p (.dK [(c, vb)])) (upd H2 p (.dK [(c, vb)])) (.ref p)
    ⟨tot.pre, tot.nw, tot.le.trans lf, fun b o hb hn => ?_, fun b o z => ?_, fun b hb => ?_⟩ ⟨fun b o z => ?_, S3.len, S3.nd, fun b hb => ?_, fun n b ds h1 h2 => ?_, fun i y h1 => ?_, S3.sz⟩ (Rp.dic upd_same (.cons (rd.mono lf) .nil)) q4
  · have hbp : b ≠ p := fun z => by
      rw [z, hp] at hb
      cases hb
    rw [upd_ne hbp]
    exact tot.old b o hb hn
  · by_cases hbp : b = p
    · rw [hbp]
      exact .inr (.inl hp)
    · rw [upd_ne hbp] at z
      exact tot.fz b o z
  · by_cases hbp : b = p
    · rw [hbp, upd_same]
      simp
    · rw [upd_ne hbp]
      exact tot.kp b hb
  · by_cases hbp : b = p
    · rw [hbp, upd_same] at z ⊢
      exact z
    · rw [upd_ne hbp] at z ⊢
      exact S3.le b o z
  · by_cases hbp : b = p
    · rw [hbp, upd_same]
      simp
    · rw [upd_ne hbp]
      exact S3.tr b hb
  · obtain ⟨g0, ys, g1, g2⟩ := S3.live n b ds h1 h2
    have hbp : b ≠ p := fun z => by
      rw [z, hold] at g1
      cases g1
    exact ⟨by rw [upd_ne hbp]; exact g0, ys, by rw [upd_ne hbp]; exact g1, g2.mono lf⟩
  · obtain ⟨v, g1, g2⟩ := S3.sl i y h1
    refine ⟨v, g1, ?_⟩
    cases y with
    | d z => exact Rp.mono lf g2
    | l n => exact g2
    | o b => exact ObR.mono lf g2
end
/-! ### list(a text) -/
section
variable {X : Cx}
theorem call_listS (hc : X.calm = true) : CallR X (.type "list") (fun xs H Q => ∃ z : Str, xs = [.str z] ∧ z.length ≤ sizeLine ∧ ∀ p, H p = none → Q (.ref p) (upd H p (.lst (z.cps.toList.map fun c => V.str ⟨#[c]⟩)))) := by
  intro pins s σ H xs us Q I rx h
  obtain ⟨z, rfl, hz, q⟩ := h
  obtain ⟨u, rfl, ru⟩ := rx.one
  obtain ⟨t, rfl⟩ := ru
  refine PySem.call_list_str (I.ok.hd hc) z t (fun h' tk acc c' hk e hi => ?_) hz
  have hv : Vals (z.cps.toList.map fun c => V.str ⟨#[c]⟩) acc.toList := by
    have e1 : acc.toList.length = z.cps.size := by rw [Array.length_toList]; exact hi.1
    have e2 : (z.cps.toList.map fun c => V.str ⟨#[c]⟩) = (List.range acc.toList.length).map fun i => V.str ⟨#[z.cps.toList.getD i 0]⟩ := by
      rw [e1]
      apply List.ext_getElem?
      intro i
      rw [List.getElem?_map, List.getElem?_map]
      by_cases hl : i < z.cps.size
      · rw [List.getElem?_range hl, List.getElem?_eq_getElem (by simpa using hl)]
        simp [List.getD, hl]
      · rw [List.getElem?_eq_none (by simpa using hl), List.getElem?_eq_none (by simpa using hl)]
        rfl
    rw [e2]
    refine vals_of_get acc.toList _ fun j v hj => ?_
    have := hi.2 j v (by rw [← hj, Array.getElem?_toList])
    obtain ⟨c, u, h1, rfl⟩ := this
    have h2 : z.cps.toList[j]? = some c := by rw [Array.getElem?_toList]; exact h1
    refine ⟨u, ?_⟩
    show Value.str ⟨#[c]⟩ u = Value.str ⟨#[z.cps.toList.getD j 0]⟩ u
    rw [List.getD, h2]
    rfl
  exact ⟨.ref s.heap.objs.size, upd H s.heap.objs.size (.lst (z.cps.toList.map fun c => V.str ⟨#[c]⟩)), I.laid hk (Nat.le_refl _) (show ObjOk X.prog X.w _ _ _ (.lst _) from ⟨by rw [List.length_map]; exact hz, acc.toList, c', hv, by rw [Array.toArray_toList]; exact e⟩), rfl, q _ (I.hok.fresh (Nat.le_refl _))⟩
theorem rpSigns {K : PySem.W.Frag} {H : Hp} : ∀ l : List Nat, RpA K H (l.map fun c => V.str ⟨#[c]⟩) (l.map sign)
  | [] => .nil
  | c :: l => .cons (.str _) (rpSigns l)
def gListA : GLA := fun ds k => match ds with
  | [.str z] => z.length ≤ sizeLine ∧ k (signs z)
  | ds => gListL ds k
theorem o_listA (hc : X.calm = true) : OpLC X (.type "list") gListA := by
  obtain ⟨r, h1, h2⟩ := o_listL (X := X)
  refine ⟨_, callOr h1 (call_listS hc), fun xs Hf H ds k Q e rx q F => ?_⟩
  unfold gListA at q
  split at q
  · obtain ⟨v, rfl, rv⟩ := hs1 rx
    rw [rv.str]
    exact .inr ⟨_, rfl, q.1, fun p hp => F p _ _ Hf H (.refl e) hp (rpSigns _) q.2⟩
  · exact .inl (h2 xs Hf H _ k Q e rx q F)
end
end Dl

/-! zip of a tuple and a list -/
namespace Dl
open PySem
open PySem.Spec
open PyProof.Rows
open L2
open Evl (Ex)
def ItzM (K : PySem.W.Frag) (a b : Addr) : It :=
  ⟨fun i H => ∃ (xs ys : List V) (x y : V), SqT K H a xs ∧ SqL K H b ys ∧ xs[i]? = some x ∧ ys[i]? = some y,
    fun i H v H' => ∃ T x y, v = .ref T ∧ H T = none ∧ H' = upd H T (.tup [x, y]) ∧ (∀ xs, SqT K H a xs → xs[i]? = some x) ∧ ∀ ys, SqL K H b ys → ys[i]? = some y,
    fun i H => ∃ xs ys : List V, SqT K H a xs ∧ SqL K H b ys ∧ i ≤ xs.length ∧ i ≤ ys.length ∧ (i = xs.length ∨ i = ys.length)⟩
theorem sep_of {z TI TO i1 i2 a b : Addr} (D : ZipApart z TI TO i1 i2 a b) : ZipSep2 z TI TO i1 i2 [i1, a] [i2, b] where
  TIz := D.TIz
  TOz := D.TOz
  TITO := D.TITO
  TIi1 := D.TIi1
  mem1 := by simp
  zf1 := by simp; exact ⟨D.i1z.symm, D.l1z.symm⟩
  Tf1 := by simp; exact ⟨D.TOi1, D.l1TO.symm⟩
  TIi2 := D.TIi2
  mem2 := by simp
  zf2 := by simp; exact ⟨D.i2z.symm, D.l2z.symm⟩
  Tf2 := by simp; exact ⟨D.TOi2, D.l2TO.symm⟩
  sep1_2 := by simp; exact ⟨D.i12, D.l2i1.symm⟩
  sep2_1 := by simp; exact ⟨D.i12.symm, D.l1i2.symm⟩
theorem turn_zipM {P : Program} {w : World} {K : PySem.W.Frag} {elts : List Expr} {kk : Nat} {tpos : Pos} {a b z TI TO i1 i2 : Addr} (D : ZipApart z TI TO i1 i2 a b) :
    Turn P w K (.Tuple elts kk tpos) (ItzM K a b) [z, TI, TO, i1, i2] z (fun i h => IsZip h z TI TO .none ∧ IsPair h TI (.ref i1) (.ref i2) ∧ (∃ x y, IsPair h TO x y) ∧ h.IsTupleIter i1 a i ∧ h.IsListIter i2 b i) where
  mem := by simp
  obj := fun i h st c hc => by
    obtain ⟨hz, hTI, ⟨x, y, hTO⟩, ⟨o1, e1, _, d1⟩, ⟨o2, e2, _, d2⟩⟩ := st
    have e' : c = z ∨ c = TI ∨ c = TO ∨ c = i1 ∨ c = i2 := by simpa using hc
    rcases e' with q | q | q | q | q
    · rw [q]; exact ⟨_, hz, fun v q => nomatch q⟩
    · rw [q]; exact ⟨_, hTI, fun v q => nomatch q⟩
    · rw [q]; exact ⟨_, hTO, fun v q => nomatch q⟩
    · rw [q]; exact ⟨o1, e1, fun v q => by rw [d1] at q; cases q⟩
    · rw [q]; exact ⟨o2, e2, fun v q => by rw [d2] at q; cases q⟩
  keep := fun i h h' st k => by
    obtain ⟨hz, hTI, ⟨x, y, hTO⟩, h1, h2⟩ := st
    exact ⟨k z (by simp) _ hz, k TI (by simp) _ hTI, ⟨x, y, k TO (by simp) _ hTO⟩, h1.at fun o q => k i1 (by simp) o q, h2.at fun o q => k i2 (by simp) o q⟩
  item := by
    intro X hP hw hK hc i pins s σ H E I hf st hg
    subst hP hw hK
    obtain ⟨hz, hTI, ⟨x0, y0, hTO⟩, h1, h2⟩ := st
    obtain ⟨xs, ys, x, y, hqx, hqy, hx, hy⟩ := hg
    obtain ⟨its, rv, p, _⟩ := I.tuple hqx
    obtain ⟨its2, rv2, p2, _⟩ := I.list hqy
    obtain ⟨u, hu, ru⟩ := rv.get hx
    obtain ⟨u2, hu2, ru2⟩ := rv2.get hy
    have hzl : z < s.heap.objs.size := Heap.lt_size hz
    have hh : X.A.in1.handled = none := I.ok.hd hc
    have lt1 : i < its.toArray.size := by
      have := (List.getElem?_eq_some_iff.mp hu).1
      simpa using this
    have lt2 : i < its2.toArray.size := by
      have := (List.getElem?_eq_some_iff.mp hu2).1
      simpa using this
    refine wpAny_pyNext_zipD2_item (sep_of D) (Draws.tuple hh i1 a D.l1i1 its.toArray) (Draws.list hh i2 b D.l2i2 its2.toArray) hz hTI hTO ⟨h1, p⟩ ⟨h2, p2.isList⟩ lt1 lt2 fun x1 x2 h' tk y1 y2 z' TO' h1' h2' hT hsz hk => ?_
    have ex1 : x1 = u := Option.some.inj (y1.symm.trans (by simpa using hu))
    have ex2 : x2 = u2 := Option.some.inj (y2.symm.trans (by simpa using hu2))
    subst ex1 ex2
    refine ⟨_, rfl, wpAny_letOwnedTupleGo_zip (s := { s with heap := h', toks := tk }) z' fun h'' z'' sb => ?_⟩
    have hT2 : h''.get? s.heap.objs.size = some { cls := .type "tuple", data := .seq #[x1, x2] } := (sb.2 _ (Nat.ne_of_gt hzl)).trans hT
    have new : ObjOk X.prog X.w (upd H s.heap.objs.size (.tup [x, y])) h'' s.heap.objs.size (.tup [x, y]) :=
      ⟨by show 2 ≤ sizeLine; decide, [x1, x2], .cons ru (.cons ru2 .nil), ⟨_, hT2, rfl, _, rfl⟩⟩
    have I1 : Inv X pins σ (upd H s.heap.objs.size (.tup [x, y])) { s with heap := h'', toks := tk } :=
      I.turnedNew (t' := tk) (ch := [z, TI, TO, i1, i2]) (fun c o hb q => (sb.2 c (fun q' => hb (by simp [q']))).trans (hk c o (fun q' => hb (by simp [q'])) (fun q' => hb (by simp [q'])) (fun q' => hb (by simp [q'])) (fun q' => hb (by simp [q'])) q)) hf (Nat.le_refl _) new
    refine ⟨.ref s.heap.objs.size, _, I1, rfl, ⟨_, x, y, rfl, I.hok.fresh (Nat.le_refl _), rfl, fun l hl => by rw [I.tuple_inj hl hqx]; exact hx, fun l hl => by rw [I.list_inj hl hqy]; exact hy⟩, ⟨z'', ?_, ⟨x1, x2, ?_⟩, ?_, ?_⟩, fun c hcm => ?_⟩
    · exact (sb.2 _ D.TIz).trans (hk _ _ D.TIz D.TITO D.TIi1 D.TIi2 hTI)
    · exact (sb.2 _ D.TOz).trans TO'
    · exact h1'.1.at fun o q => (sb.2 _ D.i1z).trans q
    · exact h2'.1.at fun o q => (sb.2 _ D.i2z).trans q
    · have hlt : c < s.heap.objs.size := by
        have e' : c = z ∨ c = TI ∨ c = TO ∨ c = i1 ∨ c = i2 := by simpa using hcm
        rcases e' with q | q | q | q | q
        · rw [q]; exact hzl
        · rw [q]; exact Heap.lt_size hTI
        · rw [q]; exact Heap.lt_size hTO
        · rw [q]; obtain ⟨_, e1, _⟩ := h1; exact Heap.lt_size e1
        · rw [q]; obtain ⟨_, e2, _⟩ := h2; exact Heap.lt_size e2
      rw [upd_ne (Nat.ne_of_lt hlt)]
      exact (hf c hcm).1
  done := by
    intro X hP hw hK hc i pins s σ H E I hf st hg
    subst hP hw hK
    obtain ⟨hz, hTI, ⟨x0, y0, hTO⟩, h1, h2⟩ := st
    obtain ⟨xs, ys, hqx, hqy, hl1, hl2, hend⟩ := hg
    obtain ⟨its, rv, p, _⟩ := I.tuple hqx
    obtain ⟨its2, rv2, p2, _⟩ := I.list hqy
    have l1 := rv.length
    have l2 := rv2.length
    have hh : X.A.in1.handled = none := I.ok.hd hc
    have s1 : its.toArray.size = xs.length := by simp; omega
    have s2 : its2.toArray.size = ys.length := by simp; omega
    exact wpAny_pyNext_zipD2_end (sep_of D) (Draws.tuple hh i1 a D.l1i1 its.toArray) (Draws.list hh i2 b D.l2i2 its2.toArray) hz hTI hTO ⟨h1, p⟩ ⟨h2, p2.isList⟩ (by rw [s1]; exact hl1) (by rw [s2]; exact hl2) (by rw [s1, s2]; exact hend) fun h' tk hk =>
      ⟨rfl, I.turnedL (t' := tk) (ch := [z, TI, TO, i1, i2]) (fun c o hb q =>
      hk c o (fun q' => hb (by simp [q'])) (fun q' => hb (by simp [q'])) (fun q' => hb (by simp [q'])) (fun q' => hb (by simp [q'])) q) hf⟩
  self := fun A i s Q E st h => wpAny_pyIter_zip st.1 h
def iZipM (K : PySem.W.Frag) (ta : TA) : TI := fun σ H R => ta σ H fun vs H1 => ∃ a b xs ys, vs = [.ref a, .ref b] ∧ SqT K H1 a xs ∧ SqL K H1 b ys ∧ R (ItzM K a b) H1
theorem pi_zipM {X : Cx} {e e2 : Expr} {ta : TA} {p pos tpos : Pos} {elts : List Expr} {kk : Nat} (hg : Gl X "zip") (hm : X.mg "zip" = none) (ha : PA X [e, e2] ta)
    (hs : starEach [e, e2] X.env = (false, eval e X.env) :: starEach [e2] X.env := by rfl) (hpl : (backTo pos (starEach [e2] X.env)).any (·.1) = false := by rfl) :
    PI X (.Tuple elts kk tpos) (.Call (.Name "zip" p) [e, e2] [] pos) (iZipM X.K ta) := by
  refine ⟨fun pins s σ H R I h => ?_⟩
  refine Call_ (ld_blt I hg hm PyProof.Rows.boot_zip (PyProof.Rows.callWith_type1 (thn (ha.run pos pins s σ H _ I h) fun us s1 ⟨vs, H1, I1, r1, q1⟩ => ?_) hs hpl))
  obtain ⟨a, b, xs, ys, ex, hqx, hqy, q⟩ := q1
  subst ex
  cases r1 with
  | cons r rr =>
    cases rr with
    | cons r' rr =>
      cases rr
      cases r
      cases r'
      have fresh5 : ∀ c, c ∈ [s1.heap.objs.size + 4, s1.heap.objs.size + 2, s1.heap.objs.size + 3, s1.heap.objs.size, s1.heap.objs.size + 1] → FpOk X pins H1 c := fun c hcm => by
        have e' : c = s1.heap.objs.size + 4 ∨ c = s1.heap.objs.size + 2 ∨ c = s1.heap.objs.size + 3 ∨ c = s1.heap.objs.size ∨ c = s1.heap.objs.size + 1 := by simpa using hcm
        have hle : s1.heap.objs.size ≤ c := by
          rcases e' with z | z | z | z | z
          · rw [z]; exact Nat.le_add_right _ _
          · rw [z]; exact Nat.le_add_right _ _
          · rw [z]; exact Nat.le_add_right _ _
          · rw [z]; exact Nat.le_refl _
          · rw [z]; exact Nat.le_add_right _ _
        exact I1.fpOk hle (I1.hok.fresh hle)
      obtain ⟨its, rv, p1, _⟩ := I1.tuple hqx
      obtain ⟨its2, rv2, p2, _⟩ := I1.list hqy
      obtain ⟨o1, ho1, _⟩ := id p1
      refine zip_begins2 (begins_tuple a its.toArray) (begins_list b its2.toArray) p1 p2.isList fun h' hz hTI hTO h1 h2 hsz hk => wpAny_pyIter_zip hz ?_
      have I2 : Inv X pins σ H1 { s1 with heap := h' } := I1.kept (t' := s1.toks) hk
      exact ⟨s1.heap.objs.size + 4, [s1.heap.objs.size + 4, s1.heap.objs.size + 2, s1.heap.objs.size + 3, s1.heap.objs.size, s1.heap.objs.size + 1], _, _, H1, rfl, I2, turn_zipM (PySem.W.ktu_apart s1.heap.objs.size a b (Heap.lt_size ho1) p2.lt), ⟨hz, hTI, ⟨_, _, hTO⟩, ⟨_, h1, rfl, rfl⟩, ⟨_, h2, rfl, rfl⟩⟩, fresh5, q⟩
theorem Wk.zipM {K : PySem.W.Frag} {Hf : Hp} {a b : Addr} {xs ys : List V} {ds es : List D} (h : SqT K Hf a xs) (h' : Hf b = some (.lst ys)) (r : RpA K Hf xs ds) (r' : RpA K Hf ys es) : Wk K Hf (ItzM K a b) (pairs ds es) := fun i Hf' H' e1 e2 => by
  have hq : SqT K H' a xs := Evl.ex_t (e1.trans e2) h
  have hq' : SqL K H' b ys := Evl.sq_of (e2 _ _ (e1 _ _ h'))
  refine ⟨fun d hd => ?_, fun hl => ⟨xs, ys, hq, hq', ?_⟩⟩
  · obtain ⟨da, db, g1, g2, rfl⟩ := pairs_at hd
    obtain ⟨v, hv, rv⟩ := r.getD g1
    obtain ⟨u, hu, ru⟩ := r'.getD g2
    refine ⟨⟨xs, ys, v, u, hq, hq', hv, hu⟩, fun x H2 hy => ?_⟩
    obtain ⟨T, x1, x2, rfl, hT, rfl, f1, f2⟩ := hy
    have e3 : x1 = v := Option.some.inj ((f1 xs hq).symm.trans hv)
    have e4 : x2 = u := Option.some.inj ((f2 ys hq').symm.trans hu)
    rw [e3, e4]
    exact pair_new e2 hT (rv.mono e1) (ru.mono e1)
  · rw [r.length, r'.length]
    unfold pairs at hl
    rw [List.length_map, List.length_zip] at hl
    omega
def wZipM (wr : WA) : WI := fun r k x => wr r (fun ys r1 => frzs ys r1 fun ds r2 => match ds with
  | [.tuple a, .list b] => k (pairs a b) r2
  | _ => False) x
theorem si_zipM {X : Cx} {W : WX} {a b : Expr} {p pos tpos : Pos} {wr : WA} {elts : List Expr} {kk : Nat} (hm : X.mg "zip" = none) (ha : SA X W [a, b] wr) (hg : Gl X "zip" := by rfl) (hs : starEach [a, b] X.env = (false, eval a X.env) :: starEach [b] X.env := by rfl) (hpl : (backTo pos (starEach [b] X.env)).any (·.1) = false := by rfl) :
    SI X W (.Tuple elts kk tpos) (.Call (.Name "zip" p) [a, b] [] pos) (wZipM wr) := by
  refine piI (pi_zipM hg hm ha hs hpl) fun s H R q => ?_
  obtain ⟨am, Hf, r, k, x, S, hw, hk, hx⟩ := q
  refine ⟨am, Hf, r, _, x, S, hw, fun ys r1 am1 Hf1 H1 vs p1 S1 rs q => ?_, hx⟩
  obtain ⟨ds, r2, Hf2, p2, S2, ra, q⟩ := frzs_ok S1 rs q
  have p3 := p1.trans p2
  split at q
  · cases ra with
    | cons h t =>
      cases t with
      | cons h' t' =>
        cases t'
        cases h with
        | tup h1 g1 =>
          cases h' with
          | lst h2 g2 => exact ⟨_, _, _, _, rfl, Evl.ex_t S2.le h1, Evl.sq_of (S2.le _ _ h2), hk _ r2 am1 Hf2 H1 _ p3 S2 (.zipM h1 h2 g1 g2) q⟩
  · exact q.elim
end Dl

/-! a text backwards -/
namespace Dl
open PySem
open PySem.Spec
open PyProof.Rows
open L2
open Evl (Ex)
def revZ (z : Str) : Str := ⟨z.cps.toList.reverse.toArray⟩
theorem made_rev {z : Str} {t : Tok} {t1 : Tok} : sliceMade z t none none (some (-1, t1)) = .str (revZ z) := by
  have e : slicePicked z none none (some (-1, t1)) = (List.range z.length).reverse := by
    show sliceRange ((z.length : Int) - 1) (-1) (-1) = _
    rw [PySem.W.krv_sliceRange, PySem.W.krv_range]
  unfold sliceMade
  rw [e]
  have h1 : ¬ ((((some ((-1 : Int), t1)).map (·.1)).getD 1 == 1 && (List.range z.length).reverse.length == z.length) = true) := by
    show ¬ (((-1 : Int) == 1 && _) = true)
    simp
  rw [if_neg h1]
  show Made.str ⟨(((List.range z.cps.size).reverse).filterMap (z.cps[·]?)).toArray⟩ = _
  rw [List.filterMap_reverse, PySem.W.krv_all]
  rfl
theorem revZ_len {z : Str} : (revZ z).length = z.length := by
  show (z.cps.toList.reverse.toArray).size = z.cps.size
  simp
def tRevS (te : TE) : TE := fun σ H Q => te σ H fun x H1 => ∃ z, x = .str z ∧ z.length ≤ sizeLine ∧ Q (.str (revZ z)) H1
theorem pe_revS {X : Cx} {e : Expr} {te : TE} {k : Nat} {p1 p2 p3 pos : Pos} (he : PE X e te) : PE X (.Subscript e (.Slice none none (some (.UnaryOp .USub (.Constant (.int 1) k p1) p2)) p3) pos) (tRevS te) := by
  refine ⟨fun pins s σ H Q I h => ?_⟩
  refine Subscript_ (thn (he.run pins s σ H _ I h) fun v s1 ⟨x, H1, I1, r1, q1⟩ => ?_)
  obtain ⟨z, ex, hz, q⟩ := q1
  subst ex
  obtain ⟨t, rfl⟩ := r1
  have hst : PO X (some (.UnaryOp .USub (.Constant (.int 1) k p1) p2)) (tPart (tUn (rU fun i => .int (-i)) (tC (.int 1)))) := po_some (pe_un un_neg pe_int)
  refine wpAny_Slice (thn (po_none.run pins s1 σ H1 (fun o H2 => o = none ∧ H2 = H1) I1 ⟨rfl, rfl⟩) fun vl s2 ⟨l, H2, I2, pl, el, e2⟩ => ?_)
  subst el e2
  refine thn (po_none.run pins s2 σ H2 (fun o H3 => o = none ∧ H3 = H2) I2 ⟨rfl, rfl⟩) fun vu s3 ⟨u, H3, I3, pu, eu, e3⟩ => ?_
  subst eu e3
  refine thn (hst.run pins s3 σ H3 (fun o H4 => o = some (-1) ∧ H4 = H3) I3 ⟨1, rfl, -1, rfl, rfl, rfl⟩) fun vs s4 ⟨o, H4, I4, ps, eo, e4⟩ => ?_
  subst eo e4
  have I5 : Inv X pins σ H4 { s4 with heap := s4.heap.push { cls := .type "slice", data := .fields #[vl, vu, vs] } } := I4.kept (t' := s4.toks) fun b ob q => Heap.get?_push_of_some _ q
  obtain ⟨l, rfl, hl⟩ := IsPart.raw pl
  obtain ⟨u, rfl, hu⟩ := IsPart.raw pu
  obtain ⟨st, rfl, hs⟩ := IsPart.raw ps
  have el : l = none := by cases l with
    | none => rfl
    | some _ => cases hl
  have eu : u = none := by cases u with
    | none => rfl
    | some _ => cases hu
  obtain ⟨t1, es⟩ : ∃ t1, st = some (-1, t1) := by cases st with
    | none => cases hs
    | some q =>
      obtain ⟨i, t1⟩ := q
      have e0 : i = -1 := Option.some.inj hs
      subst e0
      exact ⟨t1, rfl⟩
  subst el eu es
  show wpAny (model X.prog X.w) X.A (subscriptTail e (.Slice none none (some (.UnaryOp .USub (.Constant (.int 1) k p1) p2)) p3) (.str z t) (.ref s4.heap.objs.size)) (EP X pins σ Q) X.xe { s4 with heap := s4.heap.push { cls := .type "slice", data := .fields #[partValue none, partValue none, partValue (some (-1, t1))] } }
  refine tail_any (ops := [.ref s4.heap.objs.size, .str z t]) (typeIs_str _ _ _) (F.slot_str_getitem.lookup) ?_ (by with_unfolding_all rfl)
  refine wpAny_getItem_str_slice (l := none) (u := none) (st := some (-1, t1)) ⟨_, Heap.get?_push_size _ rfl, rfl, rfl⟩ rfl ?_
  rw [made_rev]
  exact ⟨by rw [revZ_len]; exact hz, .str _, H4, I5.tok _, ⟨_, rfl⟩, q⟩
section
variable {X : Cx} {W : WX} {pos : Pos} {e : Expr} {we : WE}
def wRevS (we : WE) : WE := fun r k x => we r (fun y r1 => dref y r1 fun d => match d with
  | .str z => z.length ≤ sizeLine ∧ k (.d (.str (revZ z))) r1
  | _ => False) x
theorem se_revS {k : Nat} {p1 p2 p3 pos : Pos} (h : SE X W e we) : SE X W (.Subscript e (.Slice none none (some (.UnaryOp .USub (.Constant (.int 1) k p1) p2)) p3) pos) (wRevS we) := by
  refine peI (pe_revS h) fun s H Q q => ?_
  obtain ⟨am, Hf, r, k, x, S, hw, hk, hx⟩ := q
  refine ⟨am, Hf, r, _, x, S, hw, fun y r1 am1 Hf1 H1 v p1 S1 rr q => ?_, hx⟩
  obtain ⟨d, rd, q⟩ := dref_ok S1 rr q
  split at q
  · rename_i z
    rw [rd.str]
    exact ⟨z, rfl, q.1, hk (.d (.str (revZ z))) r1 am1 Hf1 H1 _ p1 S1 (.str _) q.2⟩
  · exact q.elim
/-- a number of any size times a small one -/
def gMulC : G2 := fun x y k => match x, y with
  | .int i, .int j => (-(2 ^ 64) < j ∧ j < 2 ^ 64) ∧ k (.int (i * j))
  | _, _ => False
theorem o_mulC : Op2 X (binaryOp .Mult) gMulC := by
  refine ⟨_, op_mul (X := X), fun x y Hf H dx dy k Q e rx ry q F => ?_⟩
  cases dx <;> cases dy <;> first | exact q.elim | skip
  rw [rx.int, ry.int]
  exact ⟨_, _, rfl, rfl, .inr q.1, F.here e (.int _) q.2⟩
end
end Dl

/-! list(range(a, b, -1)) -/
namespace Dl
open PySem
open PySem.Spec
open PyProof.Rows
open L2
open Evl (Ex)
def rgVC (i c : Int) (n : Nat) : List V := (List.range n).map fun k => V.int (i + (k : Nat) * c)
theorem rgVC_length (i c : Int) (n : Nat) : (rgVC i c n).length = n := by unfold rgVC; rw [List.length_map, List.length_range]
theorem vals_rgC {i c : Int} {n : Nat} {acc : Array Value} (h : ItemsOf (fun k v => ∃ t, v = .int (i + k * c) t) acc n) : Vals (rgVC i c n) acc.toList := by
  have e : acc.toList.length = n := by rw [Array.length_toList]; exact h.1
  unfold rgVC
  rw [← e]
  refine vals_of_get acc.toList _ fun j u hj => ?_
  obtain ⟨t, rfl⟩ := h.2 j u (by rw [← hj, Array.getElem?_toList])
  exact ⟨t, rfl⟩
theorem rp_rgC {K : PySem.W.Frag} {H : Hp} (i c : Int) (n : Nat) : RpA K H (rgVC i c n) (intRC i c n) := by
  unfold rgVC intRC
  generalize List.range n = l
  induction l with
  | nil => exact .nil
  | cons i l ih => exact .cons (.int _) ih
section
variable {X : Cx} {W : WX} {pos p p2 pos2 : Pos} {a b c : Expr} {wr : WA} {ta : TA}
def tLst3 (ta : TA) : TE := fun σ H Q => ta σ H fun vs H1 => ∃ (i j : Int), vs = [.int i, .int j, .int (-1)] ∧ (-(2 ^ 62) ≤ i ∧ i < 2 ^ 62 ∧ -(2 ^ 62) ≤ j ∧ j < 2 ^ 62) ∧ (i - j).toNat ≤ 2 ^ 24 ∧ ∀ q, H1 q = none → Q (.ref q) (upd H1 q (.lst (rgVC i (-1) (i - j).toNat)))
theorem pe_listRg3 (hc : X.calm = true) (hg : Gl X "list") (hm : X.mg "list" = none) (hg2 : Gl X "range") (hm2 : X.mg "range" = none) (ha : PA X [a, b, c] ta)
    (hs : starEach [a, b, c] X.env = (false, eval a X.env) :: starEach [b, c] X.env := by rfl) (hpl : (backTo pos2 (starEach [b, c] X.env)).any (·.1) = false := by rfl)
    (na : starEach [.Call (.Name "range" p2) [a, b, c] [] pos2] X.env = (false, eval (.Call (.Name "range" p2) [a, b, c] [] pos2) X.env) :: starEach [] X.env := by rfl) :
    PE X (.Call (.Name "list" p) [.Call (.Name "range" p2) [a, b, c] [] pos2] [] pos) (tLst3 ta) := by
  refine ⟨fun pins s σ H Q I h => ?_⟩
  refine Call_ (ld_blt I hg hm boot_list (PyProof.Rows.callWith_type1 (args_cons ?_ na) na))
  refine Call_ (ld_blt I hg2 hm2 boot_range (PyProof.Rows.callWith_type1 (thn (ha.run pos2 pins s σ H _ I h) fun us s1 ⟨vs, H1, I1, r1, q1⟩ => ?_) hs hpl))
  obtain ⟨i, j, e, ⟨b1, b2, b3, b4⟩, b5, q⟩ := q1
  subst e
  cases r1 with
  | cons r rr =>
    cases rr with
    | cons r' rr =>
      cases rr with
      | cons r'' rr =>
        cases rr
        obtain ⟨t, rfl⟩ := r
        obtain ⟨t', rfl⟩ := r'
        obtain ⟨t'', rfl⟩ := r''
        refine call_range_3 (by decide) ?_ (.inl (PyProof.noPylong_small (by decide)))
        refine args_nil ?_
        have I2 : Inv X pins σ H1 { s1 with heap := s1.heap.push { cls := .type "range", data := .fields #[.int i t, .int j t', .int (-1) t''] } } := I1.kept (t' := s1.toks) fun b o e => Heap.get?_push_of_some _ e
        refine call_list_range (n := (i - j).toNat) (I2.ok.hd hc) (IsRange.new ..) (PySem.W.small_down b1 b2 b3 b4) (PySem.W.rangeSize_downNat i j) b5 fun h' tk acc c' hk e' hi => ?_
        refine ⟨.ref _, upd H1 _ (.lst (rgVC i (-1) (i - j).toNat)), I2.laid hk (Nat.le_refl _) (show ObjOk X.prog X.w _ _ _ (.lst (rgVC i (-1) (i - j).toNat)) from ⟨?_, acc.toList, c', vals_rgC hi, ?_⟩), rfl, q _ (I2.hok.fresh (Nat.le_refl _))⟩
        · rw [rgVC_length, sizeLine_eq]
          omega
        · rw [Array.toArray_toList]
          exact e'
def wLst3 (wr : WA) : WL := fun r k x => wr r (fun ys r1 => drefs ys r1 fun ds => match ds with
  | [.int i, .int j, .int c] => c = -1 ∧ (-(2 ^ 62) ≤ i ∧ i < 2 ^ 62 ∧ -(2 ^ 62) ≤ j ∧ j < 2 ^ 62) ∧ (i - j).toNat ≤ 2 ^ 24 ∧ k (intRC i (-1) (i - j).toNat) r1
  | _ => False) x
theorem sl_rg3 (hc : X.calm = true) (hm : X.mg "list" = none) (hm2 : X.mg "range" = none) (ha : SA X W [a, b, c] wr) (hg : Gl X "list" := by rfl) (hg2 : Gl X "range" := by rfl)
    (hs : starEach [a, b, c] X.env = (false, eval a X.env) :: starEach [b, c] X.env := by rfl) (hpl : (backTo pos2 (starEach [b, c] X.env)).any (·.1) = false := by rfl)
    (na : starEach [.Call (.Name "range" p2) [a, b, c] [] pos2] X.env = (false, eval (.Call (.Name "range" p2) [a, b, c] [] pos2) X.env) :: starEach [] X.env := by rfl) :
    SL X W (.Call (.Name "list" p) [.Call (.Name "range" p2) [a, b, c] [] pos2] [] pos) (wLst3 wr) := by
  refine peI (pe_listRg3 hc hg hm hg2 hm2 ha hs hpl na) fun s H Q q => ?_
  obtain ⟨am, Hf, r, k, x, S, hw, hk, hx⟩ := q
  refine ⟨am, Hf, r, _, x, S, hw, fun ys r1 am1 Hf1 H1 vs p1 S1 rs q => ?_, hx⟩
  obtain ⟨ds, rds, q⟩ := drefs_ok S1 rs q
  split at q
  · rename_i i j c
    obtain ⟨rfl, hb, hz, q⟩ := q
    exact ⟨i, j, rpHs_int3 rds, hb, hz, fun p hp => folL_at S1 p1 hk p _ _ Hf1 H1 (.refl S1.le) hp (rp_rgC i (-1) _) q⟩
  · exact q.elim
end
end Dl

/-! sum of a tuple -/
namespace Dl
open PySem
open PySem.Spec
open PyProof.Rows
open L2
open Evl (Ex)
section
variable {X : Cx}
theorem cr_sumT (hc : X.calm = true) : CallR X (.builtin "sum") (fun vs H Q => ∃ (a : Addr) (ns : List Int), vs = [V.ref a] ∧ SqT X.K H a (ns.map V.int) ∧ Q (.int ns.sum) H) := by
  intro pins s σ H vs us Q I r h
  obtain ⟨a, ns, rfl, hs, q⟩ := h
  obtain ⟨its, rv, hl, _⟩ := I.tuple hs
  rw [Vals.ref1 r]
  have hi : IntsAre its ns := rv.ints
  obtain ⟨xs, hx⟩ := hi.allInts.items
  have hn : numsOf (intItems xs).toList = ns := by rw [← hx]; exact hi.numsOf
  rw [nums_intItems] at hn
  rw [hx] at hl
  refine PySem.W.ktm_sumG (I.ok.hd hc) hl fun h' tk t' hk => ?_
  rw [preSum_eq, List.take_of_length_le (by simp), hn]
  exact ⟨.int _, H, I.kept hk, ⟨_, rfl⟩, q⟩
def gSumA : GA := fun ds k => match ds with
  | [.list l] => withO (intsD l) fun ns => k (.int ns.sum)
  | [.tuple l] => withO (intsD l) fun ns => k (.int ns.sum)
  | _ => False
theorem o_sumA (hc : X.calm = true) : OpC X (.builtin "sum") gSumA := by
  refine ⟨_, callOr (cr_sum hc) (cr_sumT hc), fun xs Hf H ds k Q e rx q F => ?_⟩
  unfold gSumA at q
  split at q
  · obtain ⟨v, rfl, r⟩ := hs1 rx
    obtain ⟨a, xs, rfl, h1, r1⟩ := r.list e
    obtain ⟨ns, en, q⟩ := withO_ok q
    have ex := intsD_ok en r1
    subst ex
    exact .inl ⟨a, ns, rfl, Evl.sq_of h1, F.here e (.int _) q⟩
  · obtain ⟨v, rfl, r⟩ := hs1 rx
    obtain ⟨a, xs, rfl, h1, r1⟩ := r.tup
    obtain ⟨ns, en, q⟩ := withO_ok q
    have ex := intsD_ok en r1
    subst ex
    exact .inr ⟨a, ns, rfl, Evl.ex_t e h1, F.here e (.int _) q⟩
  · exact q.elim
end
end Dl

/-! a tuple backwards; repr of data with an empty dict in it -/
namespace Dl
open PySem
open PySem.Spec
open PyProof.Rows
open L2
open Evl (Ex)
section
variable {prog : Program} {w : World} {A : Around} {E : Value → Shared → Prop} {s : Shared}
theorem places_rev (n : Nat) : Builtin.Slice.slicePlaces ((n : Int) - 1) (-1) (-1) = n := by
  unfold Builtin.Slice.slicePlaces
  rw [if_neg (by decide)]
  by_cases h : (n : Int) - 1 > -1
  · rw [if_pos h]
    have e : ((n : Int) - 1 - -1 - 1) / (- -1) = (n : Int) - 1 := by
      rw [show (n : Int) - 1 - -1 - 1 = (n : Int) - 1 by omega, show (- -1 : Int) = 1 by decide, Int.ediv_one]
    rw [e]
    omega
  · rw [if_neg h]
    omega
theorem sliceApplied_rev {sl : Addr} {vl vu vk : Value} {n : Nat} {Q : Int × Int × Nat → Shared → Prop} (hs : s.heap.IsSliceOf sl vl vu vk) (pl : IsPart vl none) (pu : IsPart vu none) (pk : IsPart vk (some (-1)))
    (h : Q ((n : Int) - 1, -1, n) s) : wpAny (model prog w) A (Builtin.Slice.sliceApplied (.ref sl) (pure (n : Int))) Q E s := by
  obtain ⟨os, hos, hcs, hds⟩ := id hs
  unfold Builtin.Slice.sliceApplied Builtin.Slice.sliceFields
  refine wpAny_bind (wpAny_bind (wpAny_field hos hds (x := vl) rfl (wpAny_bind (wpAny_field hos hds (x := vu) rfl (wpAny_bind (wpAny_field hos hds (x := vk) rfl (wpAny_pure ?_)))))))
  refine wpAny_bind (HT.slicePart_ pk ?_)
  show wpAny _ _ (if ((-1 : Int) == 0) = true then _ else _) _ _ s
  rw [if_neg (by decide)]
  refine wpAny_bind (HT.slicePart_ pl (wpAny_bind (HT.slicePart_ pu (wpAny_bind (wpAny_pure ?_)))))
  show wpAny _ _ (pure ((n : Int) - 1, (-1 : Int), Builtin.Slice.slicePlaces ((n : Int) - 1) (-1) (-1))) _ _ s
  rw [places_rev]
  exact wpAny_pure h
theorem pick_rev (xs : Array Value) : ((List.range xs.size).filterMap fun (m : Nat) => xs[((xs.size : Int) - 1 + (m : Int) * -1).toNat]?).toArray = xs.toList.reverse.toArray := by
  congr 1
  have e : ((List.range xs.size).filterMap fun (m : Nat) => xs[((xs.size : Int) - 1 + (m : Int) * -1).toNat]?) = ((List.range xs.size).map fun k => xs.size - 1 - k).filterMap (xs[·]?) := by
    rw [List.filterMap_map]
    generalize hn : xs.size = n
    have go : ∀ l : List Nat, (∀ m ∈ l, m < n) → l.filterMap (fun (m : Nat) => xs[((n : Int) - 1 + (m : Int) * -1).toNat]?) = l.filterMap ((fun x => xs[x]?) ∘ fun k => n - 1 - k) := by
      intro l
      induction l with
      | nil => intro _; rfl
      | cons m l ih =>
        intro hm
        have h1 := hm m (by simp)
        have e1 : ((n : Int) - 1 + (m : Int) * -1).toNat = n - 1 - m := by omega
        rw [List.filterMap_cons, List.filterMap_cons, ih fun d hd => hm d (by simp [hd]), e1]
        rfl
    exact go _ fun m hm => List.mem_range.mp hm
  rw [e, PySem.W.krv_range, List.filterMap_reverse, PySem.W.krv_all]
theorem getItem_tuple_rev {t sl : Addr} {items : Array Value} {vl vu vk : Value} {Q : Value → Shared → Prop} (ht : IsTup s.heap t items) (hs : s.heap.IsSliceOf sl vl vu vk) (pl : IsPart vl none) (pu : IsPart vu none) (pk : IsPart vk (some (-1)))
    (h : Q (.ref s.heap.objs.size) { s with heap := s.heap.push { cls := .type "tuple", data := .seq items.toList.reverse.toArray } })
    (hsz : items.size ≤ sizeLine) : wpAny (model prog w) A (getItem (.ref t) (.ref sl)) Q E s := by
  have htake : sizeOk (.seq items.toList.reverse.toArray) := by
    show items.toList.reverse.toArray.size ≤ sizeLine
    simpa using hsz
  obtain ⟨os, hos, hcs, hds⟩ := id hs
  have hTs : s.TypeIs (.ref sl) "slice" := ⟨os, hos, hcs⟩
  unfold getItem
  try with_reducible refine wpAny_holding ?_
  first | refine wpAny_bind (wpAny_pure ?_) | skip
  refine wpAny_bind (wpAny_sequenceKey ht.typeIs (by decide) ?_)
  refine wpAny_bind (wpAny_callSpecial?_slot (name := Str.ofString "__getitem__") ht.typeIs PyProof.Rows.slot_tuple_getitem
    (wpAny_call_entry PyProof.Rows.slot_tuple_getitem ht.typeIs entry_tuple_getitem ?_ (args_tuple_getitem _ _)))
  show wpAny _ _ (Builtin.Tuple.tupleItemsOf (.ref t) >>= _) _ _ s
  refine wpAny_bind (tupleItemsOf_ ht ?_)
  refine wpAny_bind (wpAny_typeOf hTs ?_)
  rw [if_pos (by decide)]
  refine wpAny_bind (sliceApplied_rev hs pl pu pk ?_)
  have hno : ¬ ((((items.size : Int) - 1) == 0 && (-1 : Int) == 1 && items.size == items.size) = true) := by simp
  show wpAny _ _ (if (((items.size : Int) - 1) == 0 && (-1 : Int) == 1 && items.size == items.size) = true then _ else _) _ _ s
  rw [if_neg hno, pick_rev]
  first
    | exact wpAny_bind (m := Builtin.Tuple.tupleExact _) (wpAny_newObj_type (wpAny_pure ⟨_, rfl, wpAny_pure h⟩) htake)
    | exact wpAny_bind (m := Builtin.Tuple.tupleExact _) (wpAny_newObj_type (wpAny_bind (wpAny_pure (wpAny_pure ⟨_, rfl, wpAny_pure h⟩))) htake)
    | exact wpAny_bind (wpAny_bind (m := Builtin.Tuple.tupleExact _) (wpAny_newObj_type (wpAny_pure (wpAny_pure ⟨_, rfl, wpAny_pure h⟩)) htake))
    | exact wpAny_bind (wpAny_bind (m := Builtin.Tuple.tupleExact _) (wpAny_newObj_type (wpAny_pure ⟨_, rfl, wpAny_pure h⟩) htake))
end
theorem Vals.rev' : ∀ {xs : List V} {us : List Value}, Vals xs us → Vals xs.reverse us.reverse
  | _, _, .nil => .nil
  | x :: xs, u :: us, .cons r t => by
    rw [List.reverse_cons, List.reverse_cons]
    exact (Vals.rev' t).append (.cons r .nil)
theorem RpA.rev {K : PySem.W.Frag} {H : Hp} : ∀ {xs : List V} {ds : List D}, RpA K H xs ds → RpA K H xs.reverse ds.reverse
  | _, _, .nil => .nil
  | x :: xs, d :: ds, .cons r t => by
    rw [List.reverse_cons, List.reverse_cons]
    exact (RpA.rev t).append (.cons r .nil)
def tRevT (K : PySem.W.Frag) (te : TE) : TE := fun σ H Q => te σ H fun x H1 => ∃ a xs, x = .ref a ∧ SqT K H1 a xs ∧ ∀ p, H1 p = none → Q (.ref p) (upd H1 p (.tup xs.reverse))
theorem pe_revT {X : Cx} {e : Expr} {te : TE} {k : Nat} {p1 p2 p3 pos : Pos} (he : PE X e te) : PE X (.Subscript e (.Slice none none (some (.UnaryOp .USub (.Constant (.int 1) k p1) p2)) p3) pos) (tRevT X.K te) := by
  refine ⟨fun pins s σ H Q I h => ?_⟩
  refine Subscript_ (thn (he.run pins s σ H _ I h) fun v s1 ⟨x, H1, I1, r1, q1⟩ => ?_)
  obtain ⟨a, xs, ex, hx, q⟩ := q1
  subst ex
  cases r1
  have hst : PO X (some (.UnaryOp .USub (.Constant (.int 1) k p1) p2)) (tPart (tUn (rU fun i => .int (-i)) (tC (.int 1)))) := po_some (pe_un un_neg pe_int)
  refine wpAny_Slice (thn (po_none.run pins s1 σ H1 (fun o H2 => o = none ∧ H2 = H1) I1 ⟨rfl, rfl⟩) fun vl s2 ⟨l, H2, I2, pl, el, e2⟩ => ?_)
  subst el e2
  refine thn (po_none.run pins s2 σ H2 (fun o H3 => o = none ∧ H3 = H2) I2 ⟨rfl, rfl⟩) fun vu s3 ⟨u, H3, I3, pu, eu, e3⟩ => ?_
  subst eu e3
  refine thn (hst.run pins s3 σ H3 (fun o H4 => o = some (-1) ∧ H4 = H3) I3 ⟨1, rfl, -1, rfl, rfl, rfl⟩) fun vs s4 ⟨o, H4, I4, ps, eo, e4⟩ => ?_
  subst eo e4
  have I5 : Inv X pins σ H4 { s4 with heap := s4.heap.push { cls := .type "slice", data := .fields #[vl, vu, vs] } } := I4.kept (t' := s4.toks) fun b ob q => Heap.get?_push_of_some _ q
  obtain ⟨its, r, ht, hz⟩ := I5.tuple hx
  show wpAny (model X.prog X.w) X.A (subscriptTail e (.Slice none none (some (.UnaryOp .USub (.Constant (.int 1) k p1) p2)) p3) (.ref a) (.ref s4.heap.objs.size)) (EP X pins σ Q) X.xe { s4 with heap := s4.heap.push { cls := .type "slice", data := .fields #[vl, vu, vs] } }
  refine tail_any (ops := _) ht.typeIs (PyProof.Rows.slot_tuple_getitem.lookup) ?_ (by with_unfolding_all rfl)
  refine getItem_tuple_rev ht ⟨_, Heap.get?_push_size _ rfl, rfl, rfl⟩ pl pu ps ?_ (by rw [List.size_toArray, ← r.length]; exact hz)
  refine ⟨.ref _, _, I5.laid (t' := s4.toks) (o := .tup xs.reverse) (fun b ob q => Heap.get?_push_of_some _ q) (Nat.le_refl _) ?_, rfl, q _ (I5.hok.fresh (Nat.le_refl _))⟩
  refine ⟨by simpa using hz, its.reverse, Vals.rev' r, ?_⟩
  have := IsTup.new (s4.heap.push { cls := .type "slice", data := .fields #[vl, vu, vs] }) its.reverse.toArray
  simpa using this
section
variable {X : Cx} {W : WX} {pos : Pos} {e : Expr} {we : WE}
def wRevT (we : WE) : WE := fun r k x => we r (fun y r1 => dref y r1 fun d => match d with
  | .tuple ds => k (.d (.tuple ds.reverse)) r1
  | _ => False) x
theorem se_revT {k : Nat} {p1 p2 p3 pos : Pos} (h : SE X W e we) : SE X W (.Subscript e (.Slice none none (some (.UnaryOp .USub (.Constant (.int 1) k p1) p2)) p3) pos) (wRevT we) := by
  refine peI (pe_revT h) fun s H Q q => ?_
  obtain ⟨am, Hf, r, k, x, S, hw, hk, hx⟩ := q
  refine ⟨am, Hf, r, _, x, S, hw, fun y r1 am1 Hf1 H1 v p1 S1 rr q => ?_, hx⟩
  obtain ⟨d, rd, q⟩ := dref_ok S1 rr q
  split at q
  · rename_i ds
    obtain ⟨a, xs, rfl, hx, ra⟩ := rd.tup
    refine ⟨a, xs, rfl, Evl.ex_t S1.le hx, fun p hp => ?_⟩
    have g := Grow.new (o := .tup xs.reverse) S1.le hp
    have S2 := S1.grow g
    exact hk (.d (.tuple ds.reverse)) r1 am1 _ _ _ (p1.trans g.stp) S2 (.tup (.inl (.inl upd_same)) (ra.mono g.lf).rev) q
  · exact q.elim
end
/-! ### repr of tuples with an empty dict in them -/
mutual
def tupOnly : D → Bool
  | .none => true
  | .bool _ => true
  | .int _ => true
  | .str _ => true
  | .list _ => false
  | .tuple ds => tupOnlyA ds
  | .dict es => es.isEmpty
def tupOnlyA : List D → Bool
  | [] => true
  | d :: ds => tupOnly d && tupOnlyA ds
end
section
variable {X : Cx} {pins : List (Addr × Obj)} {σ : L2.St} {H : Hp} {s : Shared}
mutual
theorem Rp.readsT (I : Inv X pins σ H s) : ∀ (d : D) (v : V) (u : Value), tupOnly d = true → Rp X.K H v d → RelV v u → ∃ as, Reads s.heap u d as ∧ sysModules ∉ as
  | .none, _, _, _, h, r => by
    cases h
    cases r
    exact ⟨_, Reads.none, by simp⟩
  | .bool b, _, _, _, h, r => by
    cases h
    cases r
    exact ⟨_, Reads.bool b, by simp⟩
  | .int i, _, _, _, h, r => by
    cases h
    obtain ⟨t, rfl⟩ := r
    exact ⟨_, Reads.int i t, by simp⟩
  | .str x, _, _, _, h, r => by
    cases h
    obtain ⟨t, rfl⟩ := r
    exact ⟨_, Reads.str x t, by simp⟩
  | .list ds, _, _, z, _, _ => by simp [tupOnly] at z
  | .tuple ds, _, _, z, h, r => by
    cases h with
    | tup hs ha =>
      cases r
      obtain ⟨its, rv, ⟨o, ho, hc, n, hd⟩, _⟩ := I.tuple hs
      obtain ⟨as, hr, hn⟩ := RpA.readsT I ds _ its (by simpa [tupOnly] using z) ha rv
      exact ⟨_, Reads.tuple ho hc hd hr, hn⟩
  | .dict es, _, _, z, h, r => by
    cases h with
    | dic hs ha =>
      cases r
      have ee : es = [] := by simpa [tupOnly] using z
      subst ee
      cases ha
      obtain ⟨_, hsm, vs, rel, ho⟩ := I.hok _ _ hs
      obtain ⟨o, es, ep, hg, hcl, hdt, _, hp, _⟩ := ho
      have ev : vs = [] := by
        cases rel
        rfl
      subst ev
      have e0 : es.toList = [] := List.length_eq_zero_iff.mp (by rw [hp.length]; rfl)
      refine ⟨_, Reads.dict hg hcl.1 hdt (kvs := []) (as := []) (bs := []) (by rw [e0]; exact .nil) (by rw [e0]; exact .nil), ?_⟩
      simp
      intro q
      rw [q] at hsm
      simp at hsm
theorem RpA.readsT (I : Inv X pins σ H s) : ∀ (ds : List D) (vs : List V) (us : List Value), tupOnlyA ds = true → RpA X.K H vs ds → Vals vs us → ∃ as, ReadsAll s.heap us ds as ∧ sysModules ∉ as
  | [], _, _, _, h, r => by
    cases h
    cases r
    exact ⟨_, ReadsAll.nil, by simp⟩
  | d :: ds, _, _, z, h, r => by
    have z' : tupOnly d = true ∧ tupOnlyA ds = true := by simpa [tupOnlyA] using z
    cases h with
    | cons h1 h2 =>
      cases r with
      | cons r1 r2 =>
        obtain ⟨as, q1, n1⟩ := Rp.readsT I d _ _ z'.1 h1 r1
        obtain ⟨bs, q2, n2⟩ := RpA.readsT I ds _ _ z'.2 h2 r2
        exact ⟨_, ReadsAll.cons q1 q2, by simp [n1, n2]⟩
end
end
/-- repr: data without a dict, or tuples only -/
def gReprA : GA := fun ds k => match ds with
  | [d] => (shp d = true ∨ (tupOnly d = true ∧ d.depth ≤ 64)) ∧ d.showable = true ∧ d.shown.length ≤ sizeLine ∧ k (.str d.shown)
  | _ => False
section
variable {X : Cx}
theorem call_reprT (hg : X.A.guards = some []) (hu : X.A.units + 66 < cLine) : CallR X (.builtin "repr") (fun xs H Q => ∃ (v : V) (d : D), xs = [v] ∧ Rp X.K H v d ∧ tupOnly d = true ∧ d.depth ≤ 64 ∧ d.showable = true ∧ d.shown.length ≤ sizeLine ∧ Q (.str d.shown) H) := by
  intro pins s σ H xs us Q I rx h
  obtain ⟨v, d, rfl, hd, sh, hdp, sw, sz, q⟩ := h
  obtain ⟨u, rfl, ru⟩ := rx.one
  have go : ∀ t' k, EP X pins σ Q (.str d.shown t') { s with toks := k } := fun t' k => ⟨.str d.shown, H, I.tok k, ⟨t', rfl⟩, q⟩
  have ref : ∀ {a : Addr}, u = .ref a → wpAny (model X.prog X.w) X.A (call (.builtin "repr") [u]) (EP X pins σ Q) X.xe s := fun {a} eu => by
    subst eu
    obtain ⟨as, r, hn⟩ := Rp.readsT I d v _ sh hd ru
    refine PySem.repr_of_reads' r sw (fun _ => hn) hg (by omega) (fun _ _ h => h) (fun h' u tk hk => ?_) sz
    exact ⟨.str d.shown, H, I.kept hk, ⟨u, rfl⟩, q⟩
  cases hd with
  | non =>
    cases ru
    exact PySem.P.repr_of_none (go _ _)
  | bl b =>
    cases ru
    exact PySem.P.repr_of_bool (go _ _)
  | int i =>
    obtain ⟨t, rfl⟩ := ru
    exact PySem.P.repr_of_int (by simpa [PyData.showable] using sw) (go _ _)
  | str x =>
    obtain ⟨t, rfl⟩ := ru
    exact PySem.P.repr_of_str (go _ _) sz
  | lst h1 h2 =>
    cases ru
    exact ref rfl
  | tup h1 h2 =>
    cases ru
    exact ref rfl
  | dic h1 h2 =>
    cases ru
    exact ref rfl
theorem o_reprA (hg : X.A.guards = some []) (hu : X.A.units + 66 < cLine) : OpC X (.builtin "repr") gReprA := by
  obtain ⟨r, h1, h2⟩ := o_repr (X := X) hg hu
  refine ⟨_, callOr h1 (call_reprT hg hu), fun xs Hf H ds k Q e rx q F => ?_⟩
  unfold gReprA at q
  split at q
  · rename_i d
    rcases q.1 with q1 | q1
    · exact .inl (h2 xs Hf H [d] k Q e rx ⟨q1, q.2⟩ F)
    · obtain ⟨v, rfl, r⟩ := hs1 rx
      exact .inr ⟨v, _, rfl, r.full e, q1.1, q1.2, q.2.1, q.2.2.1, F.here e (.str _) q.2.2.2⟩
  · exact q.elim
end
/-! ### a list against [] -/
section
variable {X : Cx}
theorem op_neNil (hu : X.A.units + 64 < cLine) : OpR X (compareOp .NotEq) (fun x y H Q => ∃ a b xs, x = V.ref a ∧ y = V.ref b ∧ SqL X.K H a xs ∧ SqL X.K H b [] ∧ Q (.bl (!xs.isEmpty)) H) := by
  intro pins s σ H x y v u Q I rx ry h
  obtain ⟨a, b, xs, rfl, rfl, ha, hb, q⟩ := h
  cases rx
  cases ry
  obtain ⟨its, r1, p1, _⟩ := I.list ha
  obtain ⟨its2, r2, p2, _⟩ := I.list hb
  cases r2
  have hl := r1.length
  cases xs with
  | nil =>
    cases r1
    have := PySem.SeqAt.RcNeAt.lists (A := X.A) (s := s) (e := fun _ => true) p1.isList p2.isList rfl (by omega) (fun j h1 => absurd h1 (by simp))
    refine this X.prog X.w X.xe _ ⟨.bl false, H, I, rfl, q⟩
  | cons x xs =>
    have hsz : (its.toArray.size != ([] : List Value).toArray.size) = true := by
      simp at hl ⊢
      intro h
      rw [h] at hl
      simp at hl
    exact PySem.SeqAt.RcNeAt.lists_lengths (A := X.A) (s := s) p1.isList p2.isList hsz (by omega) X.prog X.w X.xe _ ⟨.bl true, H, I, rfl, q⟩
def gNeN : GB := fun x y k => match x, y with
  | .list l, .list [] => k (!l.isEmpty)
  | _, _ => False
theorem o_neN (hu : X.A.units + 64 < cLine) : OpB X (compareOp .NotEq) gNeN := by
  refine ⟨_, op_neNil hu, fun x y Hf H dx dy k Q e rx ry q F => ?_⟩
  unfold gNeN at q
  split at q
  · obtain ⟨a, xs, rfl, h1, r1⟩ := rx.list e
    obtain ⟨b, ys, rfl, h2, r2⟩ := ry.list e
    cases r2
    refine ⟨a, b, xs, rfl, rfl, Evl.sq_of h1, Evl.sq_of h2, F _ Hf H (.refl e) ?_⟩
    rename_i l
    have e2 : xs.isEmpty = l.isEmpty := by
      cases r1 with
      | nil => rfl
      | cons _ _ => rfl
    rw [e2]
    exact q
  · exact q.elim
end
/-! ### a tuple so many times -/
theorem tuple_mul0 (l : Addr) (items : Array Value) (n : Nat) (dd : Option Addr) (sl : Array (Option Value)) (x : Int) (u : Tok) (c0 : (decide (x < -(2 ^ 63)) || decide (x ≥ 2 ^ 63)) = false) (c1 : (items.isEmpty || x == 1) = true) :
    Meets (Builtin.«tuple.__mul__» ⟨[.ref l, .int x u], []⟩) (fun _ R s => s.heap.get? l = some { cls := .type "tuple", dict := dd, data := .seq items n, slots := sl } ∧ R (.ok (.ret (Value.ref l))) s) :=
  .of_wp fun prog w A R s h => by
    obtain ⟨hp, g, d, tk, os⟩ := s
    obtain ⟨hl, h⟩ := h
    have f1 := AutoSeq1.idx_int
    wp_walk using wpAny_loadPart' hl
    refine wpAny_ite_false (decide_eq_false (by rw [c0]; exact Bool.false_ne_true)) ?_
    wp_walk using wpAny_loadPart' hl
    exact ⟨_, rfl, h⟩
section
variable {X : Cx}
theorem op_rep0 : OpR X (binaryOp .Mult) (fun x y H Q => ∃ (l : Addr) (k : Int), x = .ref l ∧ y = .int k ∧ SqT X.K H l [] ∧ -(2 ^ 63) ≤ k ∧ k < 2 ^ 63 ∧ Q (.ref l) H) := by
  intro pins s σ H x y v u Q I rx ry h
  obtain ⟨l, k, rfl, rfl, hT, h1, h2, q⟩ := h
  cases rx
  obtain ⟨t, rfl⟩ := ry
  obtain ⟨its, r, ⟨⟨cls, dd, data, sl⟩, ho, hc, n, hd⟩, hs⟩ := I.tuple hT
  simp only at hc hd
  subst hc hd
  cases r
  have c0 : (decide (k < -(2 ^ 63)) || decide (k ≥ 2 ^ 63)) = false := by
    rw [decide_eq_false (by omega), decide_eq_false (by omega)] <;> rfl
  exact wpAny_binaryOp_repeat_ref (T := "tuple") (U := "int") (by decide) ⟨_, ho, rfl⟩ (fun s' => typeIs_int s' k t) noFill_tuple_mul F.fills_int_mul F.slot_int_rmul repeat_tuple F.slot_int_index.lookup
    (call_meets F.slot_int_rmul (typeIs_int s k t) F.entry_int_rmul (F.args_int_rmul_2 _ _) (int_rmul_tuple k t l _ n dd sl)
      ⟨ho, rfl, ⟨_, ho, rfl⟩, call_meets F.slot_tuple_mul ⟨_, ho, rfl⟩ F.entry_tuple_mul (F.args_tuple_mul_2 _ _) (tuple_mul0 l _ n dd sl k t c0 rfl) ⟨ho, ⟨.ref l, H, I, rfl, q⟩⟩⟩)
def gMulT : G2 := fun x y k => match x, y with
  | .tuple a, .int j => 2 ≤ j ∧ j ≤ 1000 ∧ a.length ≤ 1000 ∧ k (.tuple (List.replicate j.toNat a).flatten)
  | _, _ => False
theorem o_mulT : Op2 X (binaryOp .Mult) gMulT := by
  refine ⟨_, (op_rep0 (X := X)).or (op_repT (X := X)), fun x y Hf H dx dy k Q e rx ry q F => ?_⟩
  cases dx <;> cases dy <;> first | exact q.elim | skip
  obtain ⟨a, xs, rfl, h1, r1⟩ := rx.tup
  rw [ry.int]
  rename_i ds j
  obtain ⟨q1, q2, q3, q4⟩ := q
  by_cases hx : xs = []
  · subst hx
    cases r1
    refine .inl ⟨a, _, rfl, rfl, Evl.ex_t e h1, by omega, by omega, F.here e (.tup h1 .nil) ?_⟩
    simpa using q4
  · exact .inr ⟨a, _, xs, rfl, rfl, Evl.ex_t e h1, hx, q1, q2, by rw [r1.length]; exact q3, fun p hp => F.newT e r1.flat hp q4⟩
end
end Dl

/-! an exception that is caught and kept -/
namespace Dl
open PySem
open PySem.Spec
open PyProof.Rows
open L2
open Evl (Ex)
theorem excH_ok {P : Program} {w : World} {H : Hp} {h : Heap} {a : Addr} {cls : Value} {oe : Obj} {vs : Array Value} (e : h.get? a = some oe) (z : Zc cls none oe) (d : oe.data = .fields vs) : ObjOk P w H h a (ExcH cls a) :=
  ⟨⟨oe, vs, e, z, d⟩, ⟨oe, e⟩, fun _ _ ⟨o, v, q, r⟩ k => ⟨o, v, k o q, r⟩⟩
section
variable {X : Cx} {pins : List (Addr × Obj)} {σ : L2.St} {H : Hp} {s : Shared}
/-- an object that is there, newer than the entry, is tracked from now on -/
theorem Inv.track {a : Addr} {oe : Obj} {vs : Array Value} {o : HO} (I : L2.Inv X pins σ H s) (he : s.heap.get? a = some oe) (hd : oe.data = .fields vs) (na : H a = none) (h0 : X.s_0.heap.get? a = none) (nL : a ≠ X.env.locals)
    (np : ∀ p ∈ X.pn ++ pins, p.1 ≠ a) (new : ObjOk X.prog X.w (upd H a o) s.heap a o) : L2.Inv X pins σ (upd H a o) s := by
  have ne0 : ∀ b u, X.s_0.heap.get? b = some u → b ≠ a := fun b u e z => by
    rw [z, h0] at e
    cases e
  have up : ∀ b, b ≠ a → upd H a o b = H b := fun b hb => upd_ne hb
  have hn0 : ∀ xs, X.H_0 a ≠ some (.tup xs) := fun xs e => by
    have := I.base.tups a xs e
    rw [na] at this
    cases this
  have hn1 : ∀ u v, X.H_0 a ≠ some (.frz u v) := fun u v e => by
    have := I.base.frzs a u v e
    rw [na] at this
    cases this
  have hn2 : ∀ ps, X.H_0 a ≠ some (.tbl ps) := fun ps e => by
    obtain ⟨m, this⟩ := I.base.tbls a ps e
    rw [na] at this
    cases this
  refine ⟨I.ok, I.os, I.bare, ⟨I.base.keep, I.base.slot, fun b u e n hx => ?_, I.base.there, fun b xs e => ?_, fun b u v e => ?_, fun b ps e => ?_⟩, I.loc, I.cell, ?_, fun x c e => ?_, fun p hp => ?_, I.hok.laidN (fun _ _ q => q) na new, I.len⟩
  · rw [up b (ne0 b u e)]
    exact I.base.free b u e n hx
  · rw [up b (fun z => by subst z; exact hn0 xs e)]
    exact I.base.tups b xs e
  · rw [up b (fun z => by subst z; exact hn1 u v e)]
    exact I.base.frzs b u v e
  · obtain ⟨m, q⟩ := I.base.tbls b ps e
    exact ⟨m, by rw [up b (fun z => by subst z; exact hn2 ps e)]; exact q⟩
  · rw [up _ (Ne.symm nL)]
    exact I.free
  · have hc : c ≠ a := fun z => by
      obtain ⟨v, oc, ho, hdc⟩ := I.cell x c e
      rw [z, he] at ho
      cases ho
      rw [hd] at hdc
      cases hdc
    rw [up c hc]
    exact I.freeC x c e
  · obtain ⟨e, n, q⟩ := I.pin p hp
    exact ⟨e, by rw [up _ (np p hp)]; exact n, q⟩
end
/-- what 'except x as n: m = n' wishes of an exception of the body: slots i and j are n's and m's -/
def wKeep (K : PySem.W.Frag) (c : Value) (i j : Nat) (Wout : WX) (D : Ends) : WX := fun cls d σ H =>
  ∃ b, PySem.W.exmOne K cls c = some b ∧ (b = true → d = none ∧ ∀ a, H a = none → D.nx ((σ.set i none).set j (some (.ref a))) (upd H a (ExcH cls a))) ∧ (b = false → Wout cls d σ H)
section
variable {X : Cx} {x n mm : Str} {c : Value} {i j : Nat} {body : List Stmt} {np pos pos' p1 p2 p3 : Pos} {tb : WX → TS} {Wout : WX}
theorem set_swap {α : Type} {l : List α} {i j : Nat} {x y z : α} (h : i ≠ j) : (((l.set i x).set j y).set i z) = ((l.set i z).set j y) := by
  rw [List.set_comm _ _ (Ne.symm h), List.set_set]
theorem ps_try_keep (hs : X.stack = X.env :: X.outer) (hf : X.env.frame = some X.env.locals) (hN : X.N.Nodup) (hi : X.N[i]? = some n) (hj : X.N[j]? = some mm) (hij : i ≠ j) (hln : X.env.kindOf n = some .local) (hlm : X.env.kindOf mm = some .local) (hex : X.ex = []) (hc : Names X x c) (tk : Takes X Wout)
    (hvn : Vis X.env.scope n) (hdn : (n == ("__debug__" : Str)) = false) (hcd : (n == ("__classdict__" : Str)) = false) (hsw : swapsWith (.Name n p2) (some (.Name mm p1)) p3.line X.env = pure false)
    (hb : ∀ (W : WX) (pn : List (Addr × Obj)) (xe : Value → Shared → Prop), Takes (X.tr pn xe) W → PassesOwn (model X.prog X.w) X.A X.env xe → PSs (X.tr pn xe) body (tb W)) :
    PS X (.Try body [.ExceptHandler (some (.Name x np)) (some n) [.Assign [.Name mm p1] (.Name n p2) p3] pos'] [] [] pos) (fun D σ H => tb (wKeep X.K c i j Wout D) D σ H) := by
  refine ⟨fun pins s σ H D I h => ?_⟩
  have ok := I.ok
  have hfr : X.A.frames = some (X.env :: X.outer) := by rw [ok.frames, hs]
  have hloc : Loc X.env.scope n := .inl hln
  refine wpAny_Try_except ?_
  refine wpAny_mono ((hb (wKeep X.K c i j Wout D) (X.pn ++ pins) (fun e s₁ => wpAny (model X.prog X.w) X.A (noteFrame e X.env) (fun _ s₂ => wpAny (model X.prog X.w) X.A (setFlight e none) (fun _ s₃ =>
    wpAny (model X.prog X.w) X.A (handleBy e X.env [.ExceptHandler (some (.Name x np)) (some n) [.Assign [.Name mm p1] (.Name n p2) p3] pos']) (SP X pins D) X.xe s₃) X.xe s₂) X.xe s₁) (fun u s' xx => ?_) PassesOwn.looking).run [] s σ H D (I.toTry _) h) (fun f s1 hsp => ?_) (fun e s1 he => he)
  · obtain ⟨a, B, sI, pins', σ', H', cls, d, rfl, J', nb, up, sky, na, os, ag, b, hb1, hyes, hno⟩ := xx
    have J : L2.Inv X pins σ' H' sI := J'.ofTry ok
    have sky' : Sky B (X.env :: X.outer) a (Zc cls d) X.env.locals s'.heap := by rw [← hs]; exact sky
    show wpAny (model X.prog X.w) X.A (noteFrame (.ref a) X.env) _ _ _
    refine Sky.land Zc.steady hfr hf sky' fun h3 fl3 up3 => ?_
    have J3 : L2.Inv X pins σ' H' { s' with heap := h3 } := J.landed nb fl3.1 (up.trans up3) os ag
    obtain ⟨oe3, vs3, he3, hz3, hd3⟩ := fl3.there
    have notFr : ∀ {h : Heap} {o : Obj} {vs : Array Value}, h.FunFrames B (X.env :: X.outer) → h.get? a = some o → o.data = .fields vs → a ∉ frs (X.env :: X.outer) := fun {h o vs} ff e dd hm => by
      obtain ⟨_, o', e', hnf⟩ := ff.mem hm
      rw [e] at e'; cases e'
      exact hnf _ dd
    have nfr := notFr fl3.2.2.1 he3 hd3
    have nL : a ≠ X.env.locals := fun z => nfr (List.mem_filterMap.mpr ⟨X.env, List.mem_cons_self, by rw [hf, z]⟩)
    have nF : a ∉ X.fs := fun hm => by
      obtain ⟨e, he, q⟩ := List.mem_filterMap.mp hm
      exact nfr (List.mem_filterMap.mpr ⟨e, List.mem_cons_of_mem _ he, q⟩)
    have hBn : B.get? a = none := fl3.2.1
    have nB : ∀ b o, sI.heap.get? b = some o → b ∉ frs X.stack → b ≠ a := fun b o e hfb z => by
      have := nb b o e hfb
      rw [z, hBn] at this
      cases this
    have nfr' : a ∉ frs X.stack := by rw [hs]; exact nfr
    have h0 : X.s_0.heap.get? a = none := by
      cases e : X.s_0.heap.get? a with
      | none => rfl
      | some o =>
        obtain ⟨o', q⟩ := J.base.there a o e (by rw [hex]; exact fun z => nomatch z)
        exact absurd rfl (nB a o' q nfr')
    have npin : ∀ p ∈ X.pn ++ pins, p.1 ≠ a := fun p hp => by
      obtain ⟨e, n, q1, q2, q3⟩ := J.pin p hp
      refine nB p.1 p.2 e fun hm => ?_
      rw [hs] at hm
      obtain ⟨e', he', q'⟩ := List.mem_filterMap.mp hm
      rcases List.mem_cons.mp he' with z | z
      · rw [z, hf] at q'
        exact q1 (Option.some.inj q').symm
      · exact q2 (List.mem_filterMap.mpr ⟨e', z, q'⟩)
    have S3 := J3.suite he3 hd3 na nL nF
    refine wpAny_handleBy_cons (codeAny_handlers_test ?_) (by intro q; cases q)
    have LT : PySem.W.Looks (model X.prog X.w) h3 (typeOf (.ref a)) cls := fun A Q E s k q => wpAny_typeOf_ref (k _ _ he3) (by rw [hz3.1]; exact q)
    have LM := PySem.W.exm_one (M := model X.prog X.w) (J3.kIn) LT hb1
    have test : ∀ {Q : Value → Shared → Prop} {E : Value → Shared → Prop}, Q c { s' with heap := h3 } → wpAny (model X.prog X.w) (X.A.mark (some (.ref a))) (eval (.Name x np) X.env) Q E { s' with heap := h3 } := fun {Q E} q => by
      obtain ⟨hg, hdbg, hm | ⟨hm, hv, hnn⟩⟩ := hc
      · exact ld_glob (X := X.suite a ((a, oe3) :: (X.pn ++ pins))) S3 hg hm q hdbg
      · exact ld_blt (X := X.suite a ((a, oe3) :: (X.pn ++ pins))) S3 hg hm hv q hnn hdbg
    refine test (LM.here ?_)
    cases b with
    | true =>
      refine codeAny_handlers_suite_as ?_
      refine HandSPX.lands_againZ fl3 fun h4 fl4 up4 => ?_
      have J4 : L2.Inv X pins σ' H' { s' with heap := h4 } := J.landed nb fl4.1 ((up.trans up3).trans up4) os ag
      obtain ⟨oe4, vs4, he4, hz4, hd4⟩ := fl4.there
      have S4 := J4.suite he4 hd4 na nL nF
      obtain ⟨rfl, hy2⟩ := hyes rfl
      refine store_ok (X := X.suite a ((a, oe4) :: (X.pn ++ pins))) (v := .ref a) S4 hN hi hloc rfl (fun s5 S5 => ?_) (.inr hln)
      have hsu : PSs (X.suite a ((a, oe4) :: (X.pn ++ pins))) [.Assign [.Name mm p1] (.Name n p2) p3] (fun D σ H => ∃ v, σ[i]? = some (some v) ∧ D.nx (σ.set j (some v)) H) := by
        refine pssI (pss_one (ps_set (X := X.suite a ((a, oe4) :: (X.pn ++ pins))) hN hj (.inl hlm) (pe_var (X := X.suite a ((a, oe4) :: (X.pn ++ pins))) hi hvn hdn hcd) hsw (.inr hlm))) fun Z s H h => h
      have hlt : i < (σ' : L2.St).length := by
        rw [J.len]
        exact (List.getElem?_eq_some_iff.mp hi).1
      refine wpAny_mono (hsu.run [] s5 _ H' { nx := fun σ6 H6 => σ6 = (σ'.set i (some (.ref a))).set j (some (.ref a)) ∧ H6 = H', rt := fun _ _ => False, bk := fun _ _ => False, ct := fun _ _ => False } S5 ⟨.ref a, by rw [List.getElem?_set_self hlt], rfl, rfl⟩) (fun f s6 hsp => ?_) (fun _ _ z => False.elim z)
      cases f with
      | next =>
        obtain ⟨σ6, H6, S6, rfl, rfl⟩ := hsp
        have K6 : L2.Inv X ((a, oe4) :: pins) ((σ'.set i (some (.ref a))).set j (some (.ref a))) H6 s6 := ⟨ok, S6.os, S6.bare, S6.base, S6.loc, S6.cell, S6.free, S6.freeC, fun p hp => S6.pin p (by
          rcases List.mem_append.mp hp with hp | hp
          · exact List.mem_append_left _ (List.mem_cons_of_mem _ (List.mem_append_left _ hp))
          · rcases List.mem_cons.mp hp with hp | hp
            · rw [hp]
              exact List.mem_append_left _ List.mem_cons_self
            · exact List.mem_append_left _ (List.mem_cons_of_mem _ (List.mem_append_right _ hp))), S6.hok, S6.len⟩
        refine gone_ok K6 hN hi hln fun s7 J7 => ?_
        obtain ⟨he7, _⟩ := J7.pin (a, oe4) (List.mem_append_right _ List.mem_cons_self)
        have J8 : L2.Inv X pins (((σ'.set i (some (.ref a))).set j (some (.ref a))).set i none) H6 s7 := ⟨J7.ok, J7.os, J7.bare, J7.base, J7.loc, J7.cell, J7.free, J7.freeC, fun p hp => J7.pin p (by
          rcases List.mem_append.mp hp with hp | hp
          · exact List.mem_append_left _ hp
          · exact List.mem_append_right _ (List.mem_cons_of_mem _ hp)), J7.hok, J7.len⟩
        rw [set_swap hij] at J8
        exact ⟨_, _, Inv.track J8 he7 hd4 na h0 nL npin (excH_ok he7 hz4 hd4), hy2 a na⟩
      | brk =>
        obtain ⟨σ6, H6, S6, q6⟩ := hsp
        exact q6.elim
      | cont =>
        obtain ⟨σ6, H6, S6, q6⟩ := hsp
        exact q6.elim
      | ret u =>
        obtain ⟨v6, σ6, H6, S6, r6, q6⟩ := hsp
        exact q6.elim
    | false =>
      show wpAny _ X.A (handleBy (.ref a) X.env []) _ _ _
      refine wpAny_handleBy_nil ?_
      obtain ⟨k1, k2, k3, oe, vs, T, oT, ts', he, hz, hd, h1, hr⟩ := id fl3
      unfold PySem.passOn
      refine wpAny_bind (wpAny_field he hd h1 ?_)
      rw [if_neg (show ¬ ((Value.ref T == Value.none) = true) from by simp)]
      have fin : wpAny (model X.prog X.w) X.A (setFlight (.ref a) X.env.frame) (fun _ s4 => wpAny (model X.prog X.w) X.A (throw (.ref a) : Sem Flow) (SP X pins D) X.xe s4) X.xe { s' with heap := h3 } := by
        rw [hf]
        refine HandSPX.setFlight_upZ fl3 fun h4 hh4 up4 => wpAny_throw (tk _ _ ?_)
        exact ⟨a, B, sI, pins, σ', H', cls, d, rfl, J, nb, (up.trans up3).trans up4, .inr (.inr (by rw [hs]; exact hh4)), na, os, ag, hno rfl⟩
      first
        | exact wpAny_bind (wpAny_pure (wpAny_bind fin))
        | exact wpAny_bind fin
  · cases f with
    | next =>
      obtain ⟨σ', H', J', q⟩ := hsp
      exact wpAny_execs_nil ⟨σ', H', J'.ofTry ok, q⟩
    | brk =>
      obtain ⟨σ', H', J', q⟩ := hsp
      exact ⟨σ', H', J'.ofTry ok, q⟩
    | cont =>
      obtain ⟨σ', H', J', q⟩ := hsp
      exact ⟨σ', H', J'.ofTry ok, q⟩
    | ret u =>
      obtain ⟨v, σ', H', J', r, q⟩ := hsp
      exact ⟨v, σ', H', J'.ofTry ok, r, q⟩
end
/-! ### the data layer's try -/
def wTry (cs : List Str) (i j : Nat) (wb : WS) : WS := fun r p => wb r { p with ex := fun e r' => e.cn ∈ cs ∧ e.fs = [] ∧ p.nx ⟨(r'.sl.set i none).set j (some (.o (.exc e))), r'.st⟩ }
section
variable {K : PySem.W.Frag} {mg : Str → Option Value} {am : List Addr} {Hf H : Hp} {s : L2.St} {r : Env}
theorem Sim.clr (S : Sim K mg am Hf H s r) (i : Nat) : Sim K mg am Hf H (s.set i none) ⟨r.sl.set i none, r.st⟩ := by
  refine ⟨S.le, S.len, S.nd, S.tr, S.live, fun j x hx => ?_, ?_⟩
  · have hx' : (r.sl.set i none)[j]? = some (some x) := hx
    by_cases hj : j = i
    · have hl := (List.getElem?_eq_some_iff.mp hx').1
      rw [List.length_set] at hl
      rw [hj] at hl hx'
      rw [List.getElem?_set_self hl] at hx'
      cases hx'
    · rw [List.getElem?_set_ne (Ne.symm hj)] at hx'
      obtain ⟨v, h1, h2⟩ := S.sl j x hx'
      exact ⟨v, by rw [List.getElem?_set_ne (Ne.symm hj)]; exact h1, h2⟩
  · show (r.sl.set i none).length = (s.set i none).length
    rw [List.length_set, List.length_set]
    exact S.sz
end
section
variable {X : Cx} {W : WX} {x n mm : Str} {c : Value} {i j : Nat} {body : List Stmt} {np pos pos' p1 p2 p3 : Pos} {wb : WS} {cs : List Str}
theorem ss_tryKeep (i j : Nat) (cs : List Str) (hcs : ∀ cn ∈ cs, ∀ C, X.mg cn = some (.ref C) → PySem.W.exmOne X.K (.ref C) c = some true) (hN : X.N.Nodup) (hc : Names X x c) (tk : Takes X W)
    (hb : ∀ (W : WX) (pn : List (Addr × Obj)) (xe : Value → Shared → Prop), Takes (X.tr pn xe) W → PassesOwn (model X.prog X.w) X.A X.env xe → SB (X.tr pn xe) W body wb)
    (hs : X.stack = X.env :: X.outer := by rfl) (hf : X.env.frame = some X.env.locals := by rfl) (hi : X.N[i]? = some n := by rfl) (hj : X.N[j]? = some mm := by rfl) (hij : i ≠ j := by decide) (hln : X.env.kindOf n = some .local := by rfl) (hlm : X.env.kindOf mm = some .local := by rfl) (hex : X.ex = [] := by rfl)
    (hvn : Vis X.env.scope n := by first | exact Or.inl rfl | exact Or.inr (Or.inl rfl)) (hdn : (n == ("__debug__" : Str)) = false := by decide) (hcd : (n == ("__classdict__" : Str)) = false := by decide) (hsw : swapsWith (.Name n p2) (some (.Name mm p1)) p3.line X.env = pure false := by rfl) :
    SS X W (.Try body [.ExceptHandler (some (.Name x np)) (some n) [.Assign [.Name mm p1] (.Name n p2) p3] pos'] [] [] pos) (wTry cs i j wb) := by
  refine psI (ps_try_keep (tb := fun W => tS X.K X.mg W wb) hs hf hN hi hj hij hln hlm hex hc tk hvn hdn hcd hsw hb) fun Z s H h => ?_
  obtain ⟨am, Hf, r, p, S, hw, g1, g2, g3, g4, g5⟩ := h
  refine ⟨am, Hf, r, _, S, hw, g1, g2, g3, g4, fun e r' am' Hf' H' s' C d pp S' hx hq => ?_⟩
  obtain ⟨hcn, hfs, hnx⟩ := hq
  obtain ⟨c0, hm0, rfl, hd⟩ := hx
  have hd0 : d = none := by
    rcases hd with ⟨_, hd⟩ | ⟨_, _, hne, _⟩
    · exact hd
    · exact absurd hfs hne
  subst hd0
  refine ⟨true, hcs _ hcn c0 hm0, fun _ => ⟨rfl, fun a na => ?_⟩, fun z => nomatch z⟩
  have g := Grow.new (o := ExcH (.ref c0) a) S'.le na
  have S2 := ((S'.grow g).clr i).set (v := .ref a) (y := .o (.exc e)) j ⟨hfs, a, c0, rfl, hm0, upd_same⟩
  exact g1 _ _ _ _ _ (pp.trans g.stp) S2 hnx
end
/-! ### isinstance of an exception that is kept -/
section
open PySem.W
theorem kit_refF {K : PySem.W.Frag} {A B : Addr} {b : Bool} (h0 : (A == B) = false) (hd : PySem.W.hasDictIn K B = true) (ht : PySem.W.typeIn K (.ref B) = some (.type "type")) (hs : PySem.W.subIn K (.ref A) (.ref B) = some b) : PySem.W.kitOne K (.ref A) (.ref B) = some b := by
  obtain ⟨cd, hc, _⟩ := any_some hd
  have e0 : ((Value.ref A : Value) == .ref B) = false := by
    rw [beq_eq_false_iff_ne] at h0 ⊢
    exact fun z => h0 (Value.ref.inj z)
  have e2 : ((PySem.W.clsIn K B).isSome && PySem.W.typeIn K (.ref B) == some (.type "type")) = true := by rw [hc, ht] <;> rfl
  unfold PySem.W.kitOne
  rw [e0, if_neg (by simp)]
  show (if ((PySem.W.clsIn K B).isSome && PySem.W.typeIn K (.ref B) == some (.type "type")) = true then PySem.W.subIn K (.ref A) (.ref B) else none) = some b
  rw [if_pos e2]
  exact hs
theorem kit_self {K : PySem.W.Frag} {A : Addr} : PySem.W.kitOne K (.ref A) (.ref A) = some true := by
  unfold PySem.W.kitOne
  rw [if_pos (by simp)]
theorem kit_bty {K : PySem.W.Frag} {A : Addr} {T : String} {b : Bool} (hm : PySem.W.kitMeta T = true) (hs : PySem.W.subIn K (.ref A) (.type T) = some b) : PySem.W.kitOne K (.ref A) (.type T) = some b := by
  unfold PySem.W.kitOne
  rw [if_neg (by intro z; cases (eq_of_beq z))]
  show (if PySem.W.kitMeta T = true then PySem.W.subIn K (.ref A) (.type T) else none) = some b
  rw [if_pos hm]
  exact hs
end
def rIsX (K : PySem.W.Frag) : List V → Hp → VK → Prop := fun xs H Q => ∃ (a D : Addr) (c : V) (cv : Value) (b : Bool), xs = [.ref a, c] ∧ H a = some (ExcH (.ref D) a) ∧ ExcC K D ∧ (∀ u, RelV c u → u = cv) ∧ PySem.W.kitOne K (.ref D) cv = some b ∧ Q (.bl b) H
theorem call_isX {X : Cx} : CallR X (.builtin "isinstance") (rIsX X.K) := by
  intro pins s σ H xs us Q I r h
  obtain ⟨a, D, c, cv, b, rfl, ha, C, hcv, e, q⟩ := h
  cases r with
  | cons rx rr =>
    cases rr with
    | cons rt rr =>
      cases rr
      cases rx
      have ec := hcv _ rt
      subst ec
      obtain ⟨⟨oe, vs, hget, hz, hv⟩, _, _⟩ := I.hok a _ ha
      have J : PySem.W.InstAt s.heap a oe D none := by
        obtain ⟨oc, od, oda, osl⟩ := oe
        obtain ⟨h1, h2⟩ := hz
        dsimp only at h1 h2 hv
        subst h1 h2 hv
        exact ⟨hget, rfl, rfl, trivial⟩
      exact PySem.W.kia_one (PySem.W.handS_kitx_exc C.hg C.hk C.hs C.hd C.ha C.hn C.ht C.hm) I.kIn J e (fun z => nomatch z) fun tk => ⟨.bl b, H, I.kept (t' := tk) fun _ _ z => z, rfl, q⟩
def wIsX (tab : List (Str × Bool)) (we : WE) : WE := fun r k x => we r (fun y r1 => match y with
  | .o (.exc e) => match tab.lookup e.cn with
    | some b => k (.d (.bool b)) r1
    | none => False
  | _ => False) x
/-- what is known of the classes -/
def TabOk (K : PySem.W.Frag) (mg : Str → Option Value) (cv : Value) (tab : List (Str × Bool)) : Prop := ∀ cn b, tab.lookup cn = some b → ∀ C, mg cn = some (.ref C) → ExcC K C ∧ PySem.W.kitOne K (.ref C) cv = some b
section
variable {X : Cx} {W : WX} {pos p p2 : Pos} {e : Expr} {we : WE}
theorem se_isX {cn : Str} {C : Addr} (tab : List (Str × Bool)) (hm : X.mg "isinstance" = none) (hmC : X.mg cn = some (.ref C)) (ht : TabOk X.K X.mg (.ref C) tab) (h : SE X W e we) (hg : Gl X "isinstance" := by rfl) (hgC : Gl X cn := by rfl) (hd : (cn == ("__debug__" : Str)) = false := by decide)
    (he : starEach (e :: [.Name cn p2]) X.env = (false, eval e X.env) :: starEach [.Name cn p2] X.env := by rfl) (he2 : starEach [.Name cn p2] X.env = (false, eval (.Name cn p2) X.env) :: starEach [] X.env := by rfl) (hpl : (backTo pos (starEach [.Name cn p2] X.env)).any (·.1) = false := by rfl) :
    SE X W (.Call (.Name "isinstance" p) [e, .Name cn p2] [] pos) (wIsX tab we) := by
  refine peI (pe_callB call_isX hg hm rfl (pa_cons h (pa_cons (pe_glob (v := .ref C) hgC hmC rfl hd) pa_nil he2) he) (by decide) (by decide) he hpl) fun s H Q h => ?_
  obtain ⟨am, Hf, r, k, x, S, hw, hk, hx⟩ := h
  refine ⟨am, Hf, r, _, x, S, hw, fun y r1 am1 Hf1 H1 v p1 S1 rr q => ?_, hx⟩
  split at q
  · rename_i ex
    split at q
    · rename_i b hb
      obtain ⟨hfs, a, D, rfl, hmD, ha⟩ := rr
      obtain ⟨hE, hK⟩ := ht _ _ hb D hmD
      exact ⟨a, D, .ref C, .ref C, b, rfl, S1.le _ _ ha, hE, fun u hu => hu, hK, hk (.d (.bool b)) r1 am1 Hf1 H1 _ p1 S1 (Rp.bl _) q⟩
    · exact q.elim
  · exact q.elim
/-- .. against a built-in class -/
theorem se_isXB {tn : Str} {T : String} (tab : List (Str × Bool)) (hm : X.mg "isinstance" = none) (hmT : X.mg tn = none) (hT : bootBuiltins tn = some (.type T)) (ht : TabOk X.K X.mg (.type T) tab) (h : SE X W e we) (hg : Gl X "isinstance" := by rfl) (hgT : Gl X tn := by rfl) (hn : tn ≠ "__name__" := by decide) (hd : (tn == ("__debug__" : Str)) = false := by decide)
    (he : starEach (e :: [.Name tn p2]) X.env = (false, eval e X.env) :: starEach [.Name tn p2] X.env := by rfl) (he2 : starEach [.Name tn p2] X.env = (false, eval (.Name tn p2) X.env) :: starEach [] X.env := by rfl) (hpl : (backTo pos (starEach [.Name tn p2] X.env)).any (·.1) = false := by rfl) :
    SE X W (.Call (.Name "isinstance" p) [e, .Name tn p2] [] pos) (wIsX tab we) := by
  refine peI (pe_callB call_isX hg hm rfl (pa_cons h (pa_cons (pe_bltn (v := .ty T) hgT hmT hT rfl hn hd) pa_nil he2) he) (by decide) (by decide) he hpl) fun s H Q h => ?_
  obtain ⟨am, Hf, r, k, x, S, hw, hk, hx⟩ := h
  refine ⟨am, Hf, r, _, x, S, hw, fun y r1 am1 Hf1 H1 v p1 S1 rr q => ?_, hx⟩
  split at q
  · rename_i ex
    split at q
    · rename_i b hb
      obtain ⟨hfs, a, D, rfl, hmD, ha⟩ := rr
      obtain ⟨hE, hK⟩ := ht _ _ hb D hmD
      exact ⟨a, D, .ty T, .type T, b, rfl, S1.le _ _ ha, hE, fun u hu => hu, hK, hk (.d (.bool b)) r1 am1 Hf1 H1 _ p1 S1 (Rp.bl _) q⟩
    · exact q.elim
  · exact q.elim
/-! ### x is None, of an exception that may be kept -/
def wIsNo (we : WE) : WT := fun r k x => we r (fun y r1 => match y with
  | .o (.exc _) => k false r1
  | y => dref y r1 fun d => gIs d .none fun b => k b r1) x
theorem st_isNo {k1 : Nat} {p1 : Pos} (h : SE X W e we) (hm : behindInMarks .Is (.Constant .none k1 p1) = false := by rfl) : ST X W (.Compare e [.Is] [.Constant .none k1 p1] pos) (wIsNo we) := by
  refine ptI (pt_cmpR op_isN h pe_non hm) fun s H Q q => ?_
  obtain ⟨am, Hf, r, k, x, S, hw, hk, hx⟩ := q
  refine ⟨am, Hf, r, _, x, S, hw, fun y r1 am1 Hf1 H1 v p1 S1 rr q => ?_, hx⟩
  show _
  split at q
  · obtain ⟨hfs, a, D, rfl, hmD, ha⟩ := rr
    exact ⟨rfl, false, by simp, hk false r1 am1 Hf1 H1 p1 S1 q⟩
  · obtain ⟨d, rd, q⟩ := dref_ok S1 rr q
    refine ⟨rfl, ?_⟩
    cases d with
    | none =>
      rw [rd.non]
      exact ⟨true, by simp, hk true r1 am1 Hf1 H1 p1 S1 q⟩
    | bool b =>
      rw [rd.bl]
      exact ⟨false, by simp, hk false r1 am1 Hf1 H1 p1 S1 q⟩
    | int b =>
      rw [rd.int]
      exact ⟨false, by simp, hk false r1 am1 Hf1 H1 p1 S1 q⟩
    | str b =>
      rw [rd.str]
      exact ⟨false, by simp, hk false r1 am1 Hf1 H1 p1 S1 q⟩
    | list b =>
      obtain ⟨a, xs, rfl, _⟩ := rd.list S1.le
      exact ⟨false, by simp, hk false r1 am1 Hf1 H1 p1 S1 q⟩
    | tuple b =>
      obtain ⟨a, xs, rfl, _⟩ := rd.tup
      exact ⟨false, by simp, hk false r1 am1 Hf1 H1 p1 S1 q⟩
    | dict b => exact q.elim
/-! ### what is never looked at -/
def wNope : WE := fun _ _ _ => False
theorem se_nope {e : Expr} : SE X W e wNope := ⟨fun pins s σ H Q I h => by
  obtain ⟨am, Hf, r, k, x, S, hw, _⟩ := h
  exact hw.elim⟩
end
/-! ### repr of a list that is made there -/
def wReprL (wr : WA) : WE := fun r k x => wr r (fun ys r1 => drefs ys r1 fun ds => ys.length ≤ sizeLine ∧ ((shp (.list ds) = true) ∨ (tupOnlyA ds = true ∧ (PyData.list ds).depth ≤ 64)) ∧ (PyData.list ds).showable = true ∧ (PyData.list ds).shown.length ≤ sizeLine ∧ k (.d (.str (PyData.list ds).shown)) r1) x
section
variable {X : Cx} {W : WX} {pos p p2 : Pos} {es : List Expr} {wr : WA} {ta : TA}
def tLstN (t : TA) : TE := fun σ H Q => t σ H fun xs H1 => xs.length ≤ sizeLine ∧ ∀ p, H1 p = none → p ≠ sysModules → Q (.ref p) (upd H1 p (.lst xs))
theorem pe_lstN (h : PA X es ta) : PE X (.List es pos) (tLstN ta) := by
  refine ⟨fun pins s σ H Q I hq => ?_⟩
  refine wpAny_List_spliced (thn (h.run pos pins s σ H _ I hq) fun us s1 ⟨xs, H1, I1, r, z, q⟩ => ⟨by rw [← r.length]; exact z, ?_⟩)
  have hf : H1 s1.heap.objs.size = none := I1.hok.fresh (Nat.le_refl _)
  refine ⟨.ref s1.heap.objs.size, upd H1 s1.heap.objs.size (.lst xs), I1.laid (t' := s1.toks) (fun b u e => Heap.get?_push_of_some _ e) (Nat.le_refl _) ?_, rfl, q _ hf (Nat.ne_of_gt I1.big)⟩
  exact ⟨z, us, 0, r, Heap.get?_push_size _ rfl⟩
theorem call_reprN (hg : X.A.guards = some []) (hu : X.A.units + 66 < cLine) : CallR X (.builtin "repr") (fun xs H Q => ∃ (a : Addr) (vs : List V) (ds : List D), xs = [.ref a] ∧ a ≠ sysModules ∧ H a = some (.lst vs) ∧ RpA X.K H vs ds ∧ tupOnlyA ds = true ∧ (PyData.list ds).depth ≤ 64 ∧ (PyData.list ds).showable = true ∧ (PyData.list ds).shown.length ≤ sizeLine ∧ Q (.str (PyData.list ds).shown) H) := by
  intro pins s σ H xs us Q I rx h
  obtain ⟨a, vs, ds, rfl, hn, ha, rd, sh, hdp, sw, sz, q⟩ := h
  obtain ⟨u, rfl, ru⟩ := rx.one
  cases ru
  obtain ⟨its, rv, ⟨o, n, ho, hc, _, hd⟩, _⟩ := I.list (Evl.sq_of ha)
  obtain ⟨as, r, hns⟩ := RpA.readsT I ds vs its sh rd rv
  refine PySem.repr_of_reads' (Reads.list ho hc hd r) sw (fun _ hm => ?_) hg (by omega) (fun _ _ h => h) (fun h' u tk hk => ?_) sz
  · rcases List.mem_cons.mp hm with e | e
    · exact hn e.symm
    · exact hns e
  · exact ⟨.str (PyData.list ds).shown, H, I.kept hk, ⟨u, rfl⟩, q⟩
theorem RpHs.fullA {K : PySem.W.Frag} {Hf H : Hp} (e : Ex Hf H) : ∀ {vs : List V} {ds : List D}, RpHs K Hf H vs ds → RpA K H vs ds
  | _, _, .nil => .nil
  | _, _, .cons h t => .cons (h.full e) (RpHs.fullA e t)
theorem TabOk.one {K : PySem.W.Frag} {mg : Str → Option Value} {cv : Value} {cn : Str} {c : Addr} {b : Bool} (hm : mg cn = some (.ref c)) (E : ExcC K c) (hk : PySem.W.kitOne K (.ref c) cv = some b) : TabOk K mg cv [(cn, b)] := by
  intro x b' h C hC
  rw [List.lookup_cons] at h
  split at h
  · rename_i hx
    have e : x = cn := eq_of_beq hx
    subst e
    rw [hm] at hC
    cases hC
    cases h
    exact ⟨E, hk⟩
  · cases h
theorem se_reprL (hgu : X.A.guards = some []) (hu : X.A.units + 66 < cLine) (hm : X.mg "repr" = none) (h : SA X W es wr) (hg : Gl X "repr" := by rfl)
    (he : starEach [.List es p2] X.env = (false, eval (.List es p2) X.env) :: starEach [] X.env := by rfl) (hpl : (backTo pos (starEach [] X.env)).any (·.1) = false := by rfl) :
    SE X W (.Call (.Name "repr" p) [.List es p2] [] pos) (wReprL wr) := by
  refine peI (pe_callB (callOr (call_reprD hgu hu) (call_reprN hgu hu)) hg hm rfl (pa_cons (pe_lstN h) pa_nil he) (by decide) (by decide) he hpl) fun s H Q q => ?_
  obtain ⟨am, Hf, r, k, x, S, hw, hk, hx⟩ := q
  refine ⟨am, Hf, r, _, x, S, hw, fun ys r1 am1 Hf1 H1 vs p1 S1 rs q => ?_, hx⟩
  obtain ⟨ds, rd, hz, sh, sw, sz, q⟩ := drefs_ok S1 rs q
  refine ⟨by rw [pairLen rs]; exact hz, fun a ha hn => ?_⟩
  have g : Grow Hf1 H1 Hf1 (upd H1 a (.lst vs)) := .lost S1.le ha
  have S2 := S1.grow g
  have fin : Q (.str (PyData.list ds).shown) (upd H1 a (.lst vs)) := hk (.d (.str (PyData.list ds).shown)) r1 am1 Hf1 _ _ (p1.trans g.stp) S2 (.str _) q
  have rA : RpA X.K (upd H1 a (.lst vs)) vs ds := (RpHs.fullA S1.le rd).mono g.lh
  rcases sh with sh | ⟨s1, s2⟩
  · exact .inl ⟨.ref a, .list ds, rfl, Rp.dp (SeqAt.canLay_of_shaped sh) (.lst upd_same rA), sh, sw, sz, fin⟩
  · exact .inr ⟨a, vs, ds, rfl, hn, upd_same, rA, s1, s2, sw, sz, fin⟩
end
end Dl

/-! the data layer: sorted(set(xs)), xs a list of ints -/
namespace Dl
open PySem
open PySem.Spec
open PyProof.Rows
open L2
open Evl (Ex)
/-- a set that is just made -/
abbrev freshS (w : World) : Obj := { cls := .type "set", dict := none, data := .set #[] 0 (.fresh 0 0 (!w.params.followText "set-order")) }
section
variable {P : Program} {w : World} {A : Around} {E : Value → Shared → Prop} {s : Shared}
theorem set_of_list {l : Addr} {its : Array Value} (zs : List Int) {Q : Value → Shared → Prop} (calm : A.handled = none) (lst : s.heap.IsList l its) (are : IntsAre its.toList zs) (few : zs.length + 1 < scanBound)
    (hQ : ∀ (g : Heap) (tk c : Nat), SetR w g s.heap.objs.size (fun j => decide (j ∈ zs)) c → c ≤ zs.length → (∀ b o, s.heap.get? b = some o → g.get? b = some o) → Q (.ref s.heap.objs.size) { s with heap := g, toks := tk }) :
    wpAny (model P w) A (call (.type "set") [.ref l]) Q E s := by
  have sz : its.size = zs.length := by
    have q0 := IntsAre.length are
    rwa [Array.length_toList] at q0
  obtain ⟨cc, tt, mro1⟩ := F.called_set.mro
  have made1 := F.called_set.made
  have sub1 := F.called_set.sub
  refine wpAny_call (codeAny_of_tree ?_)
  show wpAny _ _ (callAny (.type "set") _) _ _ _
  refine wpAny_pure ⟨Code.quiet_builtin _ (by decide +kernel), codeAny_builtin F.entry_type_call ?_⟩
  rw [Around.under_plain (weight_type_call_type "set" [.ref l] []) rfl]
  have nt1 := F.called_set.notType
  have cn1 := F.called_set.canCreate
  have tc1 := F.typeCall_set_1 (.ref l)
  repeat (any_goals (first | assumption | wp_step))
  refine codeAny_mono (code_set_led1 (.ref l) (E := E) (Q₁ := fun x u => x = .ref s.heap.objs.size ∧ u = { s with heap := s.heap.push (freshS w) }) ⟨rfl, rfl⟩) fun rr u hu => ?_
  cases rr with
  | error e => exact hu
  | ok fl =>
    cases fl with
    | ret x =>
      obtain ⟨rfl, rfl⟩ := hu
      have at0 : (s.heap.push (freshS w)).get? s.heap.objs.size = some (freshS w) := Heap.get?_push_size _ rfl
      have ty0 : Shared.TypeIs { s with heap := s.heap.push (freshS w) } (.ref s.heap.objs.size) "set" := ⟨_, at0, rfl⟩
      have li0 := F.called_set.init.lookup
      have bi0 := F.called_set.init.bind (.ref s.heap.objs.size)
      repeat (any_goals (first | assumption | wp_step))
      refine codeAny_mono (codeAny_call_builtin (R := wants (fun z u2 => z = .none ∧ ∃ g tk c, u2 = { s with heap := g, toks := tk } ∧ SetR w g s.heap.objs.size (fun j => decide (j ∈ zs)) c ∧ c ≤ zs.length ∧
          (∀ b o, s.heap.get? b = some o → g.get? b = some o)) E) F.called_set.init.plain F.entry_set_init (check_set_init_1 ty0 ?_)) fun r2 u2 hr2 => ?_
      · obtain ⟨ob, hob, kc, kn, kd⟩ := lst
        obtain ⟨obc, obd, oda, osl⟩ := ob
        simp only at kc kd
        subst kc
        subst kd
        have at1 : (s.heap.push (freshS w)).get? l = some { cls := .type "list", dict := obd, data := .seq its kn, slots := osl } := Heap.get?_push_of_some _ hob
        have no1 := F.sub_list_set
        have no2 := F.sub_list_frozenset
        have no3 : (Value.type "list" == Value.type "dict") = false := by decide
        have li1 : (s.heap.push (freshS w)).IsList l its := ⟨_, at1, rfl, kn, rfl⟩
        unfold Builtin.«set.__init__» noKeywords Builtin.Frozenset.updateFrom
        generalize ePI : pyIter = PI
        wp_walk
        subst ePI
        refine wpAny_pyIter_list li1 ?_
        refine wpAny_bind (wpAny_runValue ?_)
        have lt1 : l < s.heap.objs.size := Heap.lt_size hob
        have calm3 : A.in1.in1.in1.handled = none := by simp [calm]
        have ne1 : l ≠ (s.heap.push (freshS w)).objs.size := by
          rw [Heap.size_push]
          exact Nat.ne_of_lt (Nat.lt_succ_of_lt lt1)
        have out1 : s.heap.objs.size ∉ [(s.heap.push (freshS w)).objs.size, l] := by
          rw [Heap.size_push]
          intro z
          rcases List.mem_cons.mp z with z | z
          · exact Nat.ne_of_lt (Nat.lt_succ_self _) z
          · exact Nat.ne_of_gt lt1 (List.mem_singleton.mp z)
        have val1 : ∀ (i : Nat) (v : Value), its[i]? = some v → ∃ k t, zs[i]? = some k ∧ v = .int k t := fun i v hv => by
          have hi : i < zs.length := by
            rw [← sz]
            exact (Array.getElem?_eq_some_iff.mp hv).1
          obtain ⟨t, e⟩ := PyProof.Rows.IntsAre.int_at are i v (by rwa [Array.getElem?_toList])
          refine ⟨zs[i], t, List.getElem?_eq_getElem hi, ?_⟩
          rw [e, List.getD_eq_getElem?_getD, List.getElem?_eq_getElem hi]
          rfl
        refine set_update_ints ((Walks.list calm3 _ l ne1 its).toS) s.heap.objs.size out1 zs sz few val1 (its.size - 0) 0 _ (by omega) (Nat.zero_le _) ⟨⟨_, Heap.get?_push_size _ rfl, rfl, rfl⟩, (li1.push _)⟩ ?start ?fini
        case start =>
          have got : ((s.heap.push (freshS w)).push { cls := .type "list_iterator", data := .fields #[.ref l, .int 0 0] }).get? s.heap.objs.size = some (freshS w) := Heap.get?_push_of_some _ at0
          exact ⟨0, Nat.le_refl 0, setR_new_at got⟩
        case fini =>
          intro u3 c3 mv hc3 hS3
          obtain ⟨g3, y1, y2, tk3, y3⟩ := u3
          have e1 : y1 = s.gens := mv.gens
          have e2 : y2 = s.drawn := mv.drawn
          have e3 : y3 = s.os := mv.os
          subst e1
          subst e2
          subst e3
          show wpAny _ _ _ _ _ _
          refine wpAny_pure ?_
          show wpAny _ _ (ret Value.none) _ _ _
          rw [sz] at hc3
          refine wpAny_pure ⟨rfl, g3, tk3, c3, rfl, hS3, hc3, fun b o e => ?_⟩
          have b0 : b < s.heap.objs.size := Heap.lt_size e
          refine mv.heap b o (fun z => ?_) (Heap.get?_push_of_some _ (Heap.get?_push_of_some _ e))
          rcases List.mem_cons.mp z with z | z
          · exact Nat.ne_of_lt b0 z
          · have z2 := List.mem_singleton.mp z
            rw [Heap.size_push] at z2
            exact Nat.ne_of_lt (Nat.lt_succ_of_lt b0) z2
      · cases r2 with
        | error e => exact hr2
        | ok fl2 =>
          cases fl2 with
          | ret z =>
            obtain ⟨rfl, g, tk, c4, rfl, k1, k2, k3⟩ := hr2
            repeat (any_goals (first | assumption | wp_step))
            exact hQ _ _ _ k1 k2 k3
          | _ => exact hr2.elim
    | _ => exact hu.elim
end
section
variable {X : Cx}
def rSetOfI (K : PySem.W.Frag) (w : World) : List V → Hp → VK → Prop := fun xs H Q => ∃ (l : Addr) (ns : List Int), xs = [V.ref l] ∧ SqL K H l (ns.map V.int) ∧ ns.length < 64 ∧
  ∀ p c, H p = none → c ≤ ns.length → Q (.ref p) (upd H p (SetO w p (fun k => decide (k ∈ ns)) c))
theorem cr_setOfI (hc : X.calm = true) : CallR X (.type "set") (rSetOfI X.K X.w) := by
  intro pins s σ H vs us Q I r h
  obtain ⟨l, ns, rfl, hq, hl, q⟩ := h
  rw [Vals.ref1 r]
  obtain ⟨its, rr, pl, hz⟩ := I.list hq
  have hsc : ns.length + 1 < scanBound := by unfold scanBound; omega
  have hn : H s.heap.objs.size = none := I.hok.fresh (Nat.le_refl _)
  refine set_of_list ns (I.ok.hd hc) pl.isList (by simpa using RZ.intsAre_vals rr) hsc fun g tk c hS hcl hk => ?_
  exact ⟨.ref s.heap.objs.size, upd H s.heap.objs.size (SetO X.w s.heap.objs.size (fun k => decide (k ∈ ns)) c), I.laid (t' := tk) hk (Nat.le_refl _) (setO_new hS), rfl, q _ c hn hcl⟩
def wSortS (we : WE) : WL := fun r k x => we r (fun y r1 => dref y r1 fun d => match d with
  | .list l => withO (intsD l) fun ns => ns.length < 64 ∧ ∀ ms : List Int, ms.Pairwise (· < ·) → (∀ k, k ∈ ms ↔ k ∈ ns) → k (ms.map .int) r1
  | _ => False) x
variable {W : WX} {we : WE} {e : Expr} {p p2 pos pos2 : Pos}
theorem sl_sortS (hm : X.mg "sorted" = none) (hm2 : X.mg "set" = none) (h : SE X W e we) (hc : X.calm = true := by rfl) (hg : Gl X "sorted" := by rfl) (hg2 : Gl X "set" := by rfl)
    (he2 : starEach (e :: []) X.env = (false, eval e X.env) :: starEach [] X.env := by rfl) (hpl2 : (backTo pos2 (starEach [] X.env)).any (·.1) = false := by rfl)
    (he : starEach (.Call (.Name "set" p2) [e] [] pos2 :: []) X.env = (false, eval (.Call (.Name "set" p2) [e] [] pos2) X.env) :: starEach [] X.env := by rfl) (hpl : (backTo pos (starEach [] X.env)).any (·.1) = false := by rfl) :
    SL X W (.Call (.Name "sorted" p) [.Call (.Name "set" p2) [e] [] pos2] [] pos) (wSortS we) := by
  refine peI (pe_callB (cr_sortedSet hc) hg hm rfl (pa_cons (pe_callTy (cr_setOfI hc) hg2 hm2 (by decide +kernel) (pa_cons h pa_nil he2) (by decide) (by decide) he2 hpl2) pa_nil he) (by decide) (by decide) he hpl) fun s H Q q => ?_
  obtain ⟨am, Hf, r, k, x, S, hw, hk, hx⟩ := q
  refine ⟨am, Hf, r, _, x, S, hw, fun y r1 am1 Hf1 H1 v p1 S1 rr q => ?_, hx⟩
  obtain ⟨d, rd, q⟩ := dref_ok S1 rr q
  split at q
  · rename_i l
    obtain ⟨a, xs, rfl, h1, r1a⟩ := rd.list S1.le
    obtain ⟨ns, en, hlt, q⟩ := withO_ok q
    have ex := intsD_ok en r1a
    subst ex
    refine ⟨a, ns, rfl, Evl.sq_of h1, hlt, fun b c hb hcl => ?_⟩
    have g : Grow Hf1 H1 Hf1 (upd H1 b (SetO X.w b (fun k => decide (k ∈ ns)) c)) := .lost S1.le hb
    refine ⟨b, _, c, rfl, upd_same, by omega, fun ms b2 hs hmem _ hb2 => ?_⟩
    have F := folL_at (k := fun ds r => k ds r) (S1.grow g) (p1.trans g.stp) hk
    exact F b2 _ _ _ _ (.refl g.ff) hb2 (rpInts ms) (q ms hs fun j => by rw [hmem j]; simp)
  · exact q.elim
end
end Dl

/-! zip of a list and a tuple -/
namespace Dl
open PySem
open PySem.Spec
open PyProof.Rows
open L2
open Evl (Ex)
def ItzN (K : PySem.W.Frag) (a b : Addr) : It :=
  ⟨fun i H => ∃ (xs ys : List V) (x y : V), SqL K H a xs ∧ SqT K H b ys ∧ xs[i]? = some x ∧ ys[i]? = some y,
    fun i H v H' => ∃ T x y, v = .ref T ∧ H T = none ∧ H' = upd H T (.tup [x, y]) ∧ (∀ xs, SqL K H a xs → xs[i]? = some x) ∧ ∀ ys, SqT K H b ys → ys[i]? = some y,
    fun i H => ∃ xs ys : List V, SqL K H a xs ∧ SqT K H b ys ∧ i ≤ xs.length ∧ i ≤ ys.length ∧ (i = xs.length ∨ i = ys.length)⟩
theorem turn_zipN {P : Program} {w : World} {K : PySem.W.Frag} {elts : List Expr} {kk : Nat} {tpos : Pos} {a b z TI TO i1 i2 : Addr} (D : ZipApart z TI TO i1 i2 a b) :
    Turn P w K (.Tuple elts kk tpos) (ItzN K a b) [z, TI, TO, i1, i2] z (fun i h => IsZip h z TI TO .none ∧ IsPair h TI (.ref i1) (.ref i2) ∧ (∃ x y, IsPair h TO x y) ∧ h.IsListIter i1 a i ∧ h.IsTupleIter i2 b i) where
  mem := by simp
  obj := fun i h st c hc => by
    obtain ⟨hz, hTI, ⟨x, y, hTO⟩, ⟨o1, e1, _, d1⟩, ⟨o2, e2, _, d2⟩⟩ := st
    have e' : c = z ∨ c = TI ∨ c = TO ∨ c = i1 ∨ c = i2 := by simpa using hc
    rcases e' with q | q | q | q | q
    · rw [q]; exact ⟨_, hz, fun v q => nomatch q⟩
    · rw [q]; exact ⟨_, hTI, fun v q => nomatch q⟩
    · rw [q]; exact ⟨_, hTO, fun v q => nomatch q⟩
    · rw [q]; exact ⟨o1, e1, fun v q => by rw [d1] at q; cases q⟩
    · rw [q]; exact ⟨o2, e2, fun v q => by rw [d2] at q; cases q⟩
  keep := fun i h h' st k => by
    obtain ⟨hz, hTI, ⟨x, y, hTO⟩, h1, h2⟩ := st
    exact ⟨k z (by simp) _ hz, k TI (by simp) _ hTI, ⟨x, y, k TO (by simp) _ hTO⟩, h1.at fun o q => k i1 (by simp) o q, h2.at fun o q => k i2 (by simp) o q⟩
  item := by
    intro X hP hw hK hc i pins s σ H E I hf st hg
    subst hP hw hK
    obtain ⟨hz, hTI, ⟨x0, y0, hTO⟩, h1, h2⟩ := st
    obtain ⟨xs, ys, x, y, hqx, hqy, hx, hy⟩ := hg
    obtain ⟨its, rv, p, _⟩ := I.list hqx
    obtain ⟨its2, rv2, p2, _⟩ := I.tuple hqy
    obtain ⟨u, hu, ru⟩ := rv.get hx
    obtain ⟨u2, hu2, ru2⟩ := rv2.get hy
    have hzl : z < s.heap.objs.size := Heap.lt_size hz
    have hh : X.A.in1.handled = none := I.ok.hd hc
    have lt1 : i < its.toArray.size := by
      have := (List.getElem?_eq_some_iff.mp hu).1
      simpa using this
    have lt2 : i < its2.toArray.size := by
      have := (List.getElem?_eq_some_iff.mp hu2).1
      simpa using this
    refine wpAny_pyNext_zipD2_item (sep_of D) (Draws.list hh i1 a D.l1i1 its.toArray) (Draws.tuple hh i2 b D.l2i2 its2.toArray) hz hTI hTO ⟨h1, p.isList⟩ ⟨h2, p2⟩ lt1 lt2 fun x1 x2 h' tk y1 y2 z' TO' h1' h2' hT hsz hk => ?_
    have ex1 : x1 = u := Option.some.inj (y1.symm.trans (by simpa using hu))
    have ex2 : x2 = u2 := Option.some.inj (y2.symm.trans (by simpa using hu2))
    subst ex1 ex2
    refine ⟨_, rfl, wpAny_letOwnedTupleGo_zip (s := { s with heap := h', toks := tk }) z' fun h'' z'' sb => ?_⟩
    have hT2 : h''.get? s.heap.objs.size = some { cls := .type "tuple", data := .seq #[x1, x2] } := (sb.2 _ (Nat.ne_of_gt hzl)).trans hT
    have new : ObjOk X.prog X.w (upd H s.heap.objs.size (.tup [x, y])) h'' s.heap.objs.size (.tup [x, y]) :=
      ⟨by show 2 ≤ sizeLine; decide, [x1, x2], .cons ru (.cons ru2 .nil), ⟨_, hT2, rfl, _, rfl⟩⟩
    have I1 : Inv X pins σ (upd H s.heap.objs.size (.tup [x, y])) { s with heap := h'', toks := tk } :=
      I.turnedNew (t' := tk) (ch := [z, TI, TO, i1, i2]) (fun c o hb q => (sb.2 c (fun q' => hb (by simp [q']))).trans (hk c o (fun q' => hb (by simp [q'])) (fun q' => hb (by simp [q'])) (fun q' => hb (by simp [q'])) (fun q' => hb (by simp [q'])) q)) hf (Nat.le_refl _) new
    refine ⟨.ref s.heap.objs.size, _, I1, rfl, ⟨_, x, y, rfl, I.hok.fresh (Nat.le_refl _), rfl, fun l hl => by rw [I.list_inj hl hqx]; exact hx, fun l hl => by rw [I.tuple_inj hl hqy]; exact hy⟩, ⟨z'', ?_, ⟨x1, x2, ?_⟩, ?_, ?_⟩, fun c hcm => ?_⟩
    · exact (sb.2 _ D.TIz).trans (hk _ _ D.TIz D.TITO D.TIi1 D.TIi2 hTI)
    · exact (sb.2 _ D.TOz).trans TO'
    · exact h1'.1.at fun o q => (sb.2 _ D.i1z).trans q
    · exact h2'.1.at fun o q => (sb.2 _ D.i2z).trans q
    · have hlt : c < s.heap.objs.size := by
        have e' : c = z ∨ c = TI ∨ c = TO ∨ c = i1 ∨ c = i2 := by simpa using hcm
        rcases e' with q | q | q | q | q
        · rw [q]; exact hzl
        · rw [q]; exact Heap.lt_size hTI
        · rw [q]; exact Heap.lt_size hTO
        · rw [q]; obtain ⟨_, e1, _⟩ := h1; exact Heap.lt_size e1
        · rw [q]; obtain ⟨_, e2, _⟩ := h2; exact Heap.lt_size e2
      rw [upd_ne (Nat.ne_of_lt hlt)]
      exact (hf c hcm).1
  done := by
    intro X hP hw hK hc i pins s σ H E I hf st hg
    subst hP hw hK
    obtain ⟨hz, hTI, ⟨x0, y0, hTO⟩, h1, h2⟩ := st
    obtain ⟨xs, ys, hqx, hqy, hl1, hl2, hend⟩ := hg
    obtain ⟨its, rv, p, _⟩ := I.list hqx
    obtain ⟨its2, rv2, p2, _⟩ := I.tuple hqy
    have l1 := rv.length
    have l2 := rv2.length
    have hh : X.A.in1.handled = none := I.ok.hd hc
    have s1 : its.toArray.size = xs.length := by simp; omega
    have s2 : its2.toArray.size = ys.length := by simp; omega
    exact wpAny_pyNext_zipD2_end (sep_of D) (Draws.list hh i1 a D.l1i1 its.toArray) (Draws.tuple hh i2 b D.l2i2 its2.toArray) hz hTI hTO ⟨h1, p.isList⟩ ⟨h2, p2⟩ (by rw [s1]; exact hl1) (by rw [s2]; exact hl2) (by rw [s1, s2]; exact hend) fun h' tk hk =>
      ⟨rfl, I.turnedL (t' := tk) (ch := [z, TI, TO, i1, i2]) (fun c o hb q =>
      hk c o (fun q' => hb (by simp [q'])) (fun q' => hb (by simp [q'])) (fun q' => hb (by simp [q'])) (fun q' => hb (by simp [q'])) q) hf⟩
  self := fun A i s Q E st h => wpAny_pyIter_zip st.1 h
def iZipN (K : PySem.W.Frag) (ta : TA) : TI := fun σ H R => ta σ H fun vs H1 => ∃ a b xs ys, vs = [.ref a, .ref b] ∧ SqL K H1 a xs ∧ SqT K H1 b ys ∧ R (ItzN K a b) H1
theorem pi_zipN {X : Cx} {e e2 : Expr} {ta : TA} {p pos tpos : Pos} {elts : List Expr} {kk : Nat} (hg : Gl X "zip") (hm : X.mg "zip" = none) (ha : PA X [e, e2] ta)
    (hs : starEach [e, e2] X.env = (false, eval e X.env) :: starEach [e2] X.env := by rfl) (hpl : (backTo pos (starEach [e2] X.env)).any (·.1) = false := by rfl) :
    PI X (.Tuple elts kk tpos) (.Call (.Name "zip" p) [e, e2] [] pos) (iZipN X.K ta) := by
  refine ⟨fun pins s σ H R I h => ?_⟩
  refine Call_ (ld_blt I hg hm PyProof.Rows.boot_zip (PyProof.Rows.callWith_type1 (thn (ha.run pos pins s σ H _ I h) fun us s1 ⟨vs, H1, I1, r1, q1⟩ => ?_) hs hpl))
  obtain ⟨a, b, xs, ys, ex, hqx, hqy, q⟩ := q1
  subst ex
  cases r1 with
  | cons r rr =>
    cases rr with
    | cons r' rr =>
      cases rr
      cases r
      cases r'
      have fresh5 : ∀ c, c ∈ [s1.heap.objs.size + 4, s1.heap.objs.size + 2, s1.heap.objs.size + 3, s1.heap.objs.size, s1.heap.objs.size + 1] → FpOk X pins H1 c := fun c hcm => by
        have e' : c = s1.heap.objs.size + 4 ∨ c = s1.heap.objs.size + 2 ∨ c = s1.heap.objs.size + 3 ∨ c = s1.heap.objs.size ∨ c = s1.heap.objs.size + 1 := by simpa using hcm
        have hle : s1.heap.objs.size ≤ c := by
          rcases e' with z | z | z | z | z
          · rw [z]; exact Nat.le_add_right _ _
          · rw [z]; exact Nat.le_add_right _ _
          · rw [z]; exact Nat.le_add_right _ _
          · rw [z]; exact Nat.le_refl _
          · rw [z]; exact Nat.le_add_right _ _
        exact I1.fpOk hle (I1.hok.fresh hle)
      obtain ⟨its, rv, p1, _⟩ := I1.list hqx
      obtain ⟨its2, rv2, p2, _⟩ := I1.tuple hqy
      obtain ⟨o1, ho1, _⟩ := id p2
      refine zip_begins2 (begins_list a its.toArray) (begins_tuple b its2.toArray) p1.isList p2 fun h' hz hTI hTO h1 h2 hsz hk => wpAny_pyIter_zip hz ?_
      have I2 : Inv X pins σ H1 { s1 with heap := h' } := I1.kept (t' := s1.toks) hk
      exact ⟨s1.heap.objs.size + 4, [s1.heap.objs.size + 4, s1.heap.objs.size + 2, s1.heap.objs.size + 3, s1.heap.objs.size, s1.heap.objs.size + 1], _, _, H1, rfl, I2, turn_zipN (PySem.W.ktu_apart s1.heap.objs.size a b p1.lt (Heap.lt_size ho1)), ⟨hz, hTI, ⟨_, _, hTO⟩, ⟨_, h1, rfl, rfl⟩, ⟨_, h2, rfl, rfl⟩⟩, fresh5, q⟩
theorem Wk.zipN {K : PySem.W.Frag} {Hf : Hp} {a b : Addr} {xs ys : List V} {ds es : List D} (h : Hf a = some (.lst xs)) (h' : SqT K Hf b ys) (r : RpA K Hf xs ds) (r' : RpA K Hf ys es) : Wk K Hf (ItzN K a b) (pairs ds es) := fun i Hf' H' e1 e2 => by
  have hq : SqL K H' a xs := Evl.sq_of (e2 _ _ (e1 _ _ h))
  have hq' : SqT K H' b ys := Evl.ex_t (e1.trans e2) h'
  refine ⟨fun d hd => ?_, fun hl => ⟨xs, ys, hq, hq', ?_⟩⟩
  · obtain ⟨da, db, g1, g2, rfl⟩ := pairs_at hd
    obtain ⟨v, hv, rv⟩ := r.getD g1
    obtain ⟨u, hu, ru⟩ := r'.getD g2
    refine ⟨⟨xs, ys, v, u, hq, hq', hv, hu⟩, fun x H2 hy => ?_⟩
    obtain ⟨T, x1, x2, rfl, hT, rfl, f1, f2⟩ := hy
    have e3 : x1 = v := Option.some.inj ((f1 xs hq).symm.trans hv)
    have e4 : x2 = u := Option.some.inj ((f2 ys hq').symm.trans hu)
    rw [e3, e4]
    exact pair_new e2 hT (rv.mono e1) (ru.mono e1)
  · rw [r.length, r'.length]
    unfold pairs at hl
    rw [List.length_map, List.length_zip] at hl
    omega
def wZipN (wr : WA) : WI := fun r k x => wr r (fun ys r1 => frzs ys r1 fun ds r2 => match ds with
  | [.list a, .tuple b] => k (pairs a b) r2
  | _ => False) x
theorem si_zipN {X : Cx} {W : WX} {a b : Expr} {p pos tpos : Pos} {wr : WA} {elts : List Expr} {kk : Nat} (hm : X.mg "zip" = none) (ha : SA X W [a, b] wr) (hg : Gl X "zip" := by rfl) (hs : starEach [a, b] X.env = (false, eval a X.env) :: starEach [b] X.env := by rfl) (hpl : (backTo pos (starEach [b] X.env)).any (·.1) = false := by rfl) :
    SI X W (.Tuple elts kk tpos) (.Call (.Name "zip" p) [a, b] [] pos) (wZipN wr) := by
  refine piI (pi_zipN hg hm ha hs hpl) fun s H R q => ?_
  obtain ⟨am, Hf, r, k, x, S, hw, hk, hx⟩ := q
  refine ⟨am, Hf, r, _, x, S, hw, fun ys r1 am1 Hf1 H1 vs p1 S1 rs q => ?_, hx⟩
  obtain ⟨ds, r2, Hf2, p2, S2, ra, q⟩ := frzs_ok S1 rs q
  have p3 := p1.trans p2
  split at q
  · cases ra with
    | cons h t =>
      cases t with
      | cons h' t' =>
        cases t'
        cases h with
        | lst h1 g1 =>
          cases h' with
          | tup h2 g2 => exact ⟨_, _, _, _, rfl, Evl.sq_of (S2.le _ _ h1), Evl.ex_t S2.le h2, hk _ r2 am1 Hf2 H1 _ p3 S2 (.zipN h1 h2 g1 g2) q⟩
  · exact q.elim
end Dl

/-! plain laws, part 0: how a data program is read -/
namespace Dl
open PySem
open PySem.Spec
open PyProof.Rows
open L2
section
variable {r : Env} {sl : List (Option R)} {st : Sto} {k : KE} {x : XQ} {kl : List D → Env → Prop} {kt : Bool → Env → Prop} {ka : List R → Env → Prop} {p : Post} {i n : Nat} {d : D} {y : R} {ds : List D} {ys : List R}
@[simp ↓] theorem e_var0 : wVar 0 ⟨some y :: sl, st⟩ k x = k y ⟨some y :: sl, st⟩ := Eq.trans rfl rfl
@[simp ↓] theorem e_var1 {y0 : Option R} : wVar 1 ⟨y0 :: some y :: sl, st⟩ k x = k y ⟨y0 :: some y :: sl, st⟩ := Eq.trans rfl rfl
@[simp ↓] theorem e_var2 {y0 y1 : Option R} : wVar 2 ⟨y0 :: y1 :: some y :: sl, st⟩ k x = k y ⟨y0 :: y1 :: some y :: sl, st⟩ := Eq.trans rfl rfl
@[simp ↓] theorem e_var3 {y0 y1 y2 : Option R} : wVar 3 ⟨y0 :: y1 :: y2 :: some y :: sl, st⟩ k x = k y ⟨y0 :: y1 :: y2 :: some y :: sl, st⟩ := Eq.trans rfl rfl
@[simp ↓] theorem e_var4 {y0 y1 y2 y3 : Option R} : wVar 4 ⟨y0 :: y1 :: y2 :: y3 :: some y :: sl, st⟩ k x = k y ⟨y0 :: y1 :: y2 :: y3 :: some y :: sl, st⟩ := Eq.trans rfl rfl
@[simp ↓] theorem e_var5 {y0 y1 y2 y3 y4 : Option R} : wVar 5 ⟨y0 :: y1 :: y2 :: y3 :: y4 :: some y :: sl, st⟩ k x = k y ⟨y0 :: y1 :: y2 :: y3 :: y4 :: some y :: sl, st⟩ := Eq.trans rfl rfl
@[simp ↓] theorem e_var6 {y0 y1 y2 y3 y4 y5 : Option R} : wVar 6 ⟨y0 :: y1 :: y2 :: y3 :: y4 :: y5 :: some y :: sl, st⟩ k x = k y ⟨y0 :: y1 :: y2 :: y3 :: y4 :: y5 :: some y :: sl, st⟩ := Eq.trans rfl rfl
@[simp ↓] theorem e_var7 {y0 y1 y2 y3 y4 y5 y6 : Option R} : wVar 7 ⟨y0 :: y1 :: y2 :: y3 :: y4 :: y5 :: y6 :: some y :: sl, st⟩ k x = k y ⟨y0 :: y1 :: y2 :: y3 :: y4 :: y5 :: y6 :: some y :: sl, st⟩ := Eq.trans rfl rfl
@[simp ↓] theorem e_var8 {y0 y1 y2 y3 y4 y5 y6 y7 : Option R} : wVar 8 ⟨y0 :: y1 :: y2 :: y3 :: y4 :: y5 :: y6 :: y7 :: some y :: sl, st⟩ k x = k y ⟨y0 :: y1 :: y2 :: y3 :: y4 :: y5 :: y6 :: y7 :: some y :: sl, st⟩ := Eq.trans rfl rfl
@[simp ↓] theorem e_var9 {y0 y1 y2 y3 y4 y5 y6 y7 y8 : Option R} : wVar 9 ⟨y0 :: y1 :: y2 :: y3 :: y4 :: y5 :: y6 :: y7 :: y8 :: some y :: sl, st⟩ k x = k y ⟨y0 :: y1 :: y2 :: y3 :: y4 :: y5 :: y6 :: y7 :: y8 :: some y :: sl, st⟩ := Eq.trans rfl rfl
@[simp ↓] theorem e_var10 {y0 y1 y2 y3 y4 y5 y6 y7 y8 y9 : Option R} : wVar 10 ⟨y0 :: y1 :: y2 :: y3 :: y4 :: y5 :: y6 :: y7 :: y8 :: y9 :: some y :: sl, st⟩ k x = k y ⟨y0 :: y1 :: y2 :: y3 :: y4 :: y5 :: y6 :: y7 :: y8 :: y9 :: some y :: sl, st⟩ := Eq.trans rfl rfl
@[simp ↓] theorem e_var11 {y0 y1 y2 y3 y4 y5 y6 y7 y8 y9 y10 : Option R} : wVar 11 ⟨y0 :: y1 :: y2 :: y3 :: y4 :: y5 :: y6 :: y7 :: y8 :: y9 :: y10 :: some y :: sl, st⟩ k x = k y ⟨y0 :: y1 :: y2 :: y3 :: y4 :: y5 :: y6 :: y7 :: y8 :: y9 :: y10 :: some y :: sl, st⟩ := Eq.trans rfl rfl
@[simp ↓] theorem e_var12 {y0 y1 y2 y3 y4 y5 y6 y7 y8 y9 y10 y11 : Option R} : wVar 12 ⟨y0 :: y1 :: y2 :: y3 :: y4 :: y5 :: y6 :: y7 :: y8 :: y9 :: y10 :: y11 :: some y :: sl, st⟩ k x = k y ⟨y0 :: y1 :: y2 :: y3 :: y4 :: y5 :: y6 :: y7 :: y8 :: y9 :: y10 :: y11 :: some y :: sl, st⟩ := Eq.trans rfl rfl
@[simp ↓] theorem e_var13 {y0 y1 y2 y3 y4 y5 y6 y7 y8 y9 y10 y11 y12 : Option R} : wVar 13 ⟨y0 :: y1 :: y2 :: y3 :: y4 :: y5 :: y6 :: y7 :: y8 :: y9 :: y10 :: y11 :: y12 :: some y :: sl, st⟩ k x = k y ⟨y0 :: y1 :: y2 :: y3 :: y4 :: y5 :: y6 :: y7 :: y8 :: y9 :: y10 :: y11 :: y12 :: some y :: sl, st⟩ := Eq.trans rfl rfl
@[simp ↓] theorem e_var14 {y0 y1 y2 y3 y4 y5 y6 y7 y8 y9 y10 y11 y12 y13 : Option R} : wVar 14 ⟨y0 :: y1 :: y2 :: y3 :: y4 :: y5 :: y6 :: y7 :: y8 :: y9 :: y10 :: y11 :: y12 :: y13 :: some y :: sl, st⟩ k x = k y ⟨y0 :: y1 :: y2 :: y3 :: y4 :: y5 :: y6 :: y7 :: y8 :: y9 :: y10 :: y11 :: y12 :: y13 :: some y :: sl, st⟩ := Eq.trans rfl rfl
@[simp ↓] theorem e_var15 {y0 y1 y2 y3 y4 y5 y6 y7 y8 y9 y10 y11 y12 y13 y14 : Option R} : wVar 15 ⟨y0 :: y1 :: y2 :: y3 :: y4 :: y5 :: y6 :: y7 :: y8 :: y9 :: y10 :: y11 :: y12 :: y13 :: y14 :: some y :: sl, st⟩ k x = k y ⟨y0 :: y1 :: y2 :: y3 :: y4 :: y5 :: y6 :: y7 :: y8 :: y9 :: y10 :: y11 :: y12 :: y13 :: y14 :: some y :: sl, st⟩ := Eq.trans rfl rfl
@[simp ↓] theorem e_var16 {y0 y1 y2 y3 y4 y5 y6 y7 y8 y9 y10 y11 y12 y13 y14 y15 : Option R} : wVar 16 ⟨y0 :: y1 :: y2 :: y3 :: y4 :: y5 :: y6 :: y7 :: y8 :: y9 :: y10 :: y11 :: y12 :: y13 :: y14 :: y15 :: some y :: sl, st⟩ k x = k y ⟨y0 :: y1 :: y2 :: y3 :: y4 :: y5 :: y6 :: y7 :: y8 :: y9 :: y10 :: y11 :: y12 :: y13 :: y14 :: y15 :: some y :: sl, st⟩ := Eq.trans rfl rfl
@[simp ↓] theorem e_var17 {y0 y1 y2 y3 y4 y5 y6 y7 y8 y9 y10 y11 y12 y13 y14 y15 y16 : Option R} : wVar 17 ⟨y0 :: y1 :: y2 :: y3 :: y4 :: y5 :: y6 :: y7 :: y8 :: y9 :: y10 :: y11 :: y12 :: y13 :: y14 :: y15 :: y16 :: some y :: sl, st⟩ k x = k y ⟨y0 :: y1 :: y2 :: y3 :: y4 :: y5 :: y6 :: y7 :: y8 :: y9 :: y10 :: y11 :: y12 :: y13 :: y14 :: y15 :: y16 :: some y :: sl, st⟩ := Eq.trans rfl rfl
@[simp ↓] theorem e_var18 {y0 y1 y2 y3 y4 y5 y6 y7 y8 y9 y10 y11 y12 y13 y14 y15 y16 y17 : Option R} : wVar 18 ⟨y0 :: y1 :: y2 :: y3 :: y4 :: y5 :: y6 :: y7 :: y8 :: y9 :: y10 :: y11 :: y12 :: y13 :: y14 :: y15 :: y16 :: y17 :: some y :: sl, st⟩ k x = k y ⟨y0 :: y1 :: y2 :: y3 :: y4 :: y5 :: y6 :: y7 :: y8 :: y9 :: y10 :: y11 :: y12 :: y13 :: y14 :: y15 :: y16 :: y17 :: some y :: sl, st⟩ := Eq.trans rfl rfl
@[simp ↓] theorem e_var19 {y0 y1 y2 y3 y4 y5 y6 y7 y8 y9 y10 y11 y12 y13 y14 y15 y16 y17 y18 : Option R} : wVar 19 ⟨y0 :: y1 :: y2 :: y3 :: y4 :: y5 :: y6 :: y7 :: y8 :: y9 :: y10 :: y11 :: y12 :: y13 :: y14 :: y15 :: y16 :: y17 :: y18 :: some y :: sl, st⟩ k x = k y ⟨y0 :: y1 :: y2 :: y3 :: y4 :: y5 :: y6 :: y7 :: y8 :: y9 :: y10 :: y11 :: y12 :: y13 :: y14 :: y15 :: y16 :: y17 :: y18 :: some y :: sl, st⟩ := Eq.trans rfl rfl
@[simp ↓] theorem e_var20 {y0 y1 y2 y3 y4 y5 y6 y7 y8 y9 y10 y11 y12 y13 y14 y15 y16 y17 y18 y19 : Option R} : wVar 20 ⟨y0 :: y1 :: y2 :: y3 :: y4 :: y5 :: y6 :: y7 :: y8 :: y9 :: y10 :: y11 :: y12 :: y13 :: y14 :: y15 :: y16 :: y17 :: y18 :: y19 :: some y :: sl, st⟩ k x = k y ⟨y0 :: y1 :: y2 :: y3 :: y4 :: y5 :: y6 :: y7 :: y8 :: y9 :: y10 :: y11 :: y12 :: y13 :: y14 :: y15 :: y16 :: y17 :: y18 :: y19 :: some y :: sl, st⟩ := Eq.trans rfl rfl
@[simp ↓] theorem e_var21 {y0 y1 y2 y3 y4 y5 y6 y7 y8 y9 y10 y11 y12 y13 y14 y15 y16 y17 y18 y19 y20 : Option R} : wVar 21 ⟨y0 :: y1 :: y2 :: y3 :: y4 :: y5 :: y6 :: y7 :: y8 :: y9 :: y10 :: y11 :: y12 :: y13 :: y14 :: y15 :: y16 :: y17 :: y18 :: y19 :: y20 :: some y :: sl, st⟩ k x = k y ⟨y0 :: y1 :: y2 :: y3 :: y4 :: y5 :: y6 :: y7 :: y8 :: y9 :: y10 :: y11 :: y12 :: y13 :: y14 :: y15 :: y16 :: y17 :: y18 :: y19 :: y20 :: some y :: sl, st⟩ := Eq.trans rfl rfl
@[simp ↓] theorem e_var22 {y0 y1 y2 y3 y4 y5 y6 y7 y8 y9 y10 y11 y12 y13 y14 y15 y16 y17 y18 y19 y20 y21 : Option R} : wVar 22 ⟨y0 :: y1 :: y2 :: y3 :: y4 :: y5 :: y6 :: y7 :: y8 :: y9 :: y10 :: y11 :: y12 :: y13 :: y14 :: y15 :: y16 :: y17 :: y18 :: y19 :: y20 :: y21 :: some y :: sl, st⟩ k x = k y ⟨y0 :: y1 :: y2 :: y3 :: y4 :: y5 :: y6 :: y7 :: y8 :: y9 :: y10 :: y11 :: y12 :: y13 :: y14 :: y15 :: y16 :: y17 :: y18 :: y19 :: y20 :: y21 :: some y :: sl, st⟩ := Eq.trans rfl rfl
@[simp ↓] theorem e_var23 {y0 y1 y2 y3 y4 y5 y6 y7 y8 y9 y10 y11 y12 y13 y14 y15 y16 y17 y18 y19 y20 y21 y22 : Option R} : wVar 23 ⟨y0 :: y1 :: y2 :: y3 :: y4 :: y5 :: y6 :: y7 :: y8 :: y9 :: y10 :: y11 :: y12 :: y13 :: y14 :: y15 :: y16 :: y17 :: y18 :: y19 :: y20 :: y21 :: y22 :: some y :: sl, st⟩ k x = k y ⟨y0 :: y1 :: y2 :: y3 :: y4 :: y5 :: y6 :: y7 :: y8 :: y9 :: y10 :: y11 :: y12 :: y13 :: y14 :: y15 :: y16 :: y17 :: y18 :: y19 :: y20 :: y21 :: y22 :: some y :: sl, st⟩ := Eq.trans rfl rfl
@[simp ↓] theorem e_C : wC d ⟨sl, st⟩ k x = k (.d d) ⟨sl, st⟩ := Eq.trans rfl rfl
@[simp ↓] theorem e_O {b : Ob} : wO b ⟨sl, st⟩ k x = k (.o b) ⟨sl, st⟩ := Eq.trans rfl rfl
@[simp ↓] theorem e_dref_d {k : D → Prop} : dref (.d d) r k = k d := Eq.trans rfl rfl
@[simp ↓] theorem e_dref_l {k : D → Prop} : dref (.l n) r k = lstAt r n fun ds => k (.list ds) := Eq.trans rfl rfl
@[simp ↓] theorem e_frz_d {k : D → Env → Prop} : frz (.d d) r k = k d r := Eq.trans rfl rfl
@[simp ↓] theorem e_frz_l {k : D → Env → Prop} : frz (.l n) r k = lstAt r n fun ds => k (.list ds) (r.kill n (.list ds)) := Eq.trans rfl rfl
theorem e_lstAt {k : List D → Prop} (h : st[n]? = some (some ds)) : lstAt ⟨sl, st⟩ n k = k ds := by
  unfold lstAt
  rw [h]
@[simp ↓] theorem e_drefs0 {k : List D → Prop} : drefs [] r k = k [] := Eq.trans rfl rfl
@[simp ↓] theorem e_drefs1 {k : List D → Prop} : drefs (y :: ys) r k = dref y r fun d => drefs ys r fun ds => k (d :: ds) := Eq.trans rfl rfl
@[simp ↓] theorem e_frzs0 {k : List D → Env → Prop} : frzs [] r k = k [] r := Eq.trans rfl rfl
@[simp ↓] theorem e_frzs1 {k : List D → Env → Prop} : frzs (y :: ys) r k = frz y r fun d r1 => frzs ys r1 fun ds r2 => k (d :: ds) r2 := Eq.trans rfl rfl
@[simp ↓] theorem e_put : Env.put ⟨sl, st⟩ i y = ⟨sl.set i (some y), st⟩ := Eq.trans rfl rfl
@[simp ↓] theorem e_kill : Env.kill ⟨sl, st⟩ n d = ⟨sl.map fun x => x.map (R.kill n d), st.set n none⟩ := Eq.trans rfl rfl
@[simp ↓] theorem e_killd {e : D} : R.kill n d (.d e) = .d e := Eq.trans rfl rfl
@[simp ↓] theorem e_killo {b : Ob} : R.kill n d (.o b) = .o b := Eq.trans rfl rfl
@[simp ↓] theorem e_killl {m : Nat} : R.kill n d (.l m) = if m = n then .d d else .l m := Eq.trans rfl rfl
@[simp ↓] theorem e_op2 {g : G2} {wa wb : WE} : wOp2 g wa wb ⟨sl, st⟩ k x = wa ⟨sl, st⟩ (fun a r1 => wb r1 (fun b r2 => dref a r2 fun da => dref b r2 fun db => g da db fun d => k (.d d) r2) x) x := Eq.trans rfl rfl
@[simp ↓] theorem e_op1 {g : G1} {wa : WE} : wOp1 g wa ⟨sl, st⟩ k x = wa ⟨sl, st⟩ (fun a r1 => dref a r1 fun da => g da fun d => k (.d d) r1) x := Eq.trans rfl rfl
@[simp ↓] theorem e_cmp {g : GB} {wa wb : WE} : wCmp g wa wb ⟨sl, st⟩ k x = wa ⟨sl, st⟩ (fun a r1 => wb r1 (fun b r2 => dref a r2 fun da => dref b r2 fun db => g da db fun d => k (.d (.bool d)) r2) x) x := Eq.trans rfl rfl
@[simp ↓] theorem e_cmpT {g : GB} {wa wb : WE} : wCmpT g wa wb ⟨sl, st⟩ kt x = wa ⟨sl, st⟩ (fun a r1 => wb r1 (fun b r2 => dref a r2 fun da => dref b r2 fun db => g da db fun d => kt d r2) x) x := Eq.trans rfl rfl
theorem ifB {c : Bool} {a b : Prop} : (match c with
  | true => a
  | false => b) = if c = true then a else b := by cases c <;> rfl
@[simp ↓] theorem e_chainT {g g' : GB} {wa wb wc : WE} : wChainT g g' wa wb wc ⟨sl, st⟩ kt x = wa ⟨sl, st⟩ (fun a r1 => wb r1 (fun b r2 => dref a r2 fun da => dref b r2 fun db => g da db fun d => if d = true then wc r2 (fun c r3 => dref b r3 fun db => dref c r3 fun dc => g' db dc fun d => kt d r3) x else kt false r2) x) x := by
  unfold wChainT
  congr 1; funext a r1; congr 1; funext b r2; congr 1; funext da; congr 1; funext db; congr 1; funext d; cases d <;> rfl
@[simp ↓] theorem e_chain {g g' : GB} {wa wb wc : WE} : wChain g g' wa wb wc ⟨sl, st⟩ k x = wChainT g g' wa wb wc ⟨sl, st⟩ (fun b r1 => k (.d (.bool b)) r1) x := Eq.trans rfl rfl
@[simp ↓] theorem e_truN : truD .none = some false := Eq.trans rfl rfl
@[simp ↓] theorem e_truB {b : Bool} : truD (.bool b) = some b := Eq.trans rfl rfl
@[simp ↓] theorem e_truI {j : Int} : truD (.int j) = some (j != 0) := Eq.trans rfl rfl
@[simp ↓] theorem e_truL : truD (.list ds) = some (!ds.isEmpty) := Eq.trans rfl rfl
@[simp ↓] theorem e_truT : truD (.tuple ds) = some (!ds.isEmpty) := Eq.trans rfl rfl
@[simp ↓] theorem e_tru {w : WE} : wTru w ⟨sl, st⟩ kt x = w ⟨sl, st⟩ (fun y r1 => dref y r1 fun d => match truD d with
  | some b => kt b r1
  | none => False) x := Eq.trans rfl rfl
@[simp ↓] theorem e_notT {t : WT} : wNotT t ⟨sl, st⟩ kt x = t ⟨sl, st⟩ (fun b r1 => kt (!b) r1) x := Eq.trans rfl rfl
@[simp ↓] theorem e_andT {ta tb : WT} : wAndT ta tb ⟨sl, st⟩ kt x = ta ⟨sl, st⟩ (fun b r1 => if b = true then tb r1 kt x else kt false r1) x := by
  unfold wAndT
  congr 1; funext b r1; cases b <;> rfl
@[simp ↓] theorem e_orT {ta tb : WT} : wOrT ta tb ⟨sl, st⟩ kt x = ta ⟨sl, st⟩ (fun b r1 => if b = true then kt true r1 else tb r1 kt x) x := by
  unfold wOrT
  congr 1; funext b r1; cases b <;> rfl
@[simp ↓] theorem e_isB {b : Bool} {k : Bool → Prop} : isB (.d (.bool b)) k = k b := Eq.trans rfl rfl
@[simp ↓] theorem e_andV {wa wb : WE} : wAndV wa wb ⟨sl, st⟩ k x = wa ⟨sl, st⟩ (fun y r1 => isB y fun b => if b = true then wb r1 k x else k (.d (.bool false)) r1) x := by
  unfold wAndV
  congr 1; funext y r1; congr 1; funext b; cases b <;> rfl
@[simp ↓] theorem e_orV {wa wb : WE} : wOrV wa wb ⟨sl, st⟩ k x = wa ⟨sl, st⟩ (fun y r1 => isB y fun b => if b = true then k (.d (.bool true)) r1 else wb r1 k x) x := by
  unfold wOrV
  congr 1; funext y r1; congr 1; funext b; cases b <;> rfl
@[simp ↓] theorem e_notV {wa : WE} : wNotV wa ⟨sl, st⟩ k x = wa ⟨sl, st⟩ (fun y r1 => isB y fun b => k (.d (.bool (!b))) r1) x := Eq.trans rfl rfl
@[simp ↓] theorem e_if {t : WT} {wa wb : WE} : wIf t wa wb ⟨sl, st⟩ k x = t ⟨sl, st⟩ (fun b r1 => if b = true then wa r1 k x else wb r1 k x) x := by
  unfold wIf
  congr 1; funext b r1; cases b <;> rfl
@[simp ↓] theorem e_nil : wNil ⟨sl, st⟩ ka x = ka [] ⟨sl, st⟩ := Eq.trans rfl rfl
@[simp ↓] theorem e_cons {wa : WE} {wr : WA} : wCons wa wr ⟨sl, st⟩ ka x = wa ⟨sl, st⟩ (fun y r1 => wr r1 (fun ys r2 => ka (y :: ys) r2) x) x := Eq.trans rfl rfl
@[simp ↓] theorem e_dat {w : WL} : wDat w ⟨sl, st⟩ k x = w ⟨sl, st⟩ (fun ds r1 => k (.d (.list ds)) r1) x := Eq.trans rfl rfl
@[simp ↓] theorem e_loc {w : WL} : wLoc w ⟨sl, st⟩ k x = w ⟨sl, st⟩ (fun ds r1 => k (.l r1.st.length) ⟨r1.sl, r1.st ++ [some ds]⟩) x := Eq.trans rfl rfl
@[simp ↓] theorem e_tup {ws : WA} : wTup ws ⟨sl, st⟩ k x = ws ⟨sl, st⟩ (fun ys r1 => ys.length ≤ sizeLine ∧ frzs ys r1 fun ds r2 => k (.d (.tuple ds)) r2) x := Eq.trans rfl rfl
@[simp ↓] theorem e_lst {ws : WA} : wLst ws ⟨sl, st⟩ kl x = ws ⟨sl, st⟩ (fun ys r1 => ys.length ≤ sizeLine ∧ frzs ys r1 fun ds r2 => kl ds r2) x := Eq.trans rfl rfl
@[simp ↓] theorem e_opL {g : GL2} {wa wb : WE} : wOpL g wa wb ⟨sl, st⟩ kl x = wa ⟨sl, st⟩ (fun a r1 => wb r1 (fun b r2 => dref a r2 fun da => dref b r2 fun db => g da db fun d => kl d r2) x) x := Eq.trans rfl rfl
@[simp ↓] theorem e_B {g : GA} {ws : WA} : wB g ws ⟨sl, st⟩ k x = ws ⟨sl, st⟩ (fun ys r1 => drefs ys r1 fun ds => g ds fun d => k (.d d) r1) x := Eq.trans rfl rfl
@[simp ↓] theorem e_BL {g : GLA} {ws : WA} : wBL g ws ⟨sl, st⟩ kl x = ws ⟨sl, st⟩ (fun ys r1 => drefs ys r1 fun ds => g ds fun d => kl d r1) x := Eq.trans rfl rfl
@[simp ↓] theorem e_no {ko : Option Int → Env → Prop} : wNo ⟨sl, st⟩ ko x = ko none ⟨sl, st⟩ := Eq.trans rfl rfl
@[simp ↓] theorem e_part {we : WE} {ko : Option Int → Env → Prop} : wPart we ⟨sl, st⟩ ko x = we ⟨sl, st⟩ (fun y r1 => isI y fun i => ko (some i) r1) x := Eq.trans rfl rfl
@[simp ↓] theorem e_dic1 {wk wv : WE} : wDic1 wk wv ⟨sl, st⟩ k x = wk ⟨sl, st⟩ (fun a r1 => wv r1 (fun b r2 => keyD a fun c => frz b r2 fun d r3 => k (.d (.dict [(kD c, d)])) r3) x) x := Eq.trans rfl rfl
@[simp ↓] theorem e_keyS {z : Str} {k : Key → Prop} : keyD (.d (.str z)) k = k (.inr z) := Eq.trans rfl rfl
@[simp ↓] theorem e_keyI {j : Int} {k : Key → Prop} : keyD (.d (.int j)) k = k (.inl j) := Eq.trans rfl rfl
@[simp ↓] theorem e_isI {j : Int} {k : Int → Prop} : isI (.d (.int j)) k = k j := Eq.trans rfl rfl
@[simp ↓] theorem e_sl {g : GS} {wa : WE} {wl wh : WO} : wSl g wa wl wh ⟨sl, st⟩ k x = wa ⟨sl, st⟩ (fun a r1 => wl r1 (fun lo r2 => wh r2 (fun hi r3 => dref a r3 fun da => g da lo hi fun d => k (.d d) r3) x) x) x := Eq.trans rfl rfl
@[simp ↓] theorem e_slL {g : GSL} {wa : WE} {wl wh : WO} : wSlL g wa wl wh ⟨sl, st⟩ kl x = wa ⟨sl, st⟩ (fun a r1 => wl r1 (fun lo r2 => wh r2 (fun hi r3 => dref a r3 fun da => g da lo hi fun d => kl d r3) x) x) x := Eq.trans rfl rfl
@[simp ↓] theorem e_tyS {z : Str} {T : String} : tyD T (.str z) = (T = "str") := Eq.trans rfl rfl
@[simp ↓] theorem e_tyL {T : String} : tyD T (.list ds) = (T = "list") := Eq.trans rfl rfl
@[simp ↓] theorem e_M {T : String} {g : GM} {wa : WE} {ws : WA} : wM T g wa ws ⟨sl, st⟩ k x = wa ⟨sl, st⟩ (fun a r1 => dref a r1 fun da => tyD T da ∧ ws r1 (fun ys r2 => dref a r2 fun da => drefs ys r2 fun ds => g da ds fun d => k (.d d) r2) x) x := Eq.trans rfl rfl
@[simp ↓] theorem e_ML {T : String} {g : GML} {wa : WE} {ws : WA} : wML T g wa ws ⟨sl, st⟩ kl x = wa ⟨sl, st⟩ (fun a r1 => dref a r1 fun da => tyD T da ∧ ws r1 (fun ys r2 => dref a r2 fun da => drefs ys r2 fun ds => g da ds fun d => kl d r2) x) x := Eq.trans rfl rfl
@[simp ↓] theorem e_M0 {T : String} {g : GM} {wa : WE} : wM0 T g wa ⟨sl, st⟩ k x = wa ⟨sl, st⟩ (fun a r1 => dref a r1 fun da => tyD T da ∧ g da [] fun d => k (.d d) r1) x := Eq.trans rfl rfl
@[simp ↓] theorem e_isL {k : Nat → Prop} : isL (.l n) k = k n := Eq.trans rfl rfl
@[simp ↓] theorem e_U {g : GU} {wa : WE} {ws : WA} : wU g wa ws ⟨sl, st⟩ k x = wa ⟨sl, st⟩ (fun a r1 => isL a fun n => lstAt r1 n fun _ => ws r1 (fun ys r2 => frzs ys r2 fun ds r3 => lstAt r3 n fun cur => g cur ds fun d new => k (.d d) (stPut r3 n new)) x) x := Eq.trans rfl rfl
@[simp ↓] theorem e_U0 {g : GU} {wa : WE} : wU0 g wa ⟨sl, st⟩ k x = wa ⟨sl, st⟩ (fun a r1 => isL a fun n => lstAt r1 n fun cur => g cur [] fun d new => k (.d d) (stPut r1 n new)) x := Eq.trans rfl rfl
@[simp ↓] theorem e_stPut : stPut ⟨sl, st⟩ n ds = ⟨sl, st.set n (some ds)⟩ := Eq.trans rfl rfl
@[simp ↓] theorem e_isScr {ns : List Int} {k : List Int → Prop} : isScr (.o (.scr ns)) k = k ns := Eq.trans rfl rfl
@[simp ↓] theorem e_scrLen {we : WE} : wScrLen we ⟨sl, st⟩ k x = we ⟨sl, st⟩ (fun y r1 => isScr y fun ns => k (.d (.int ns.length)) r1) x := Eq.trans rfl rfl
@[simp ↓] theorem e_scrAt {wa wb : WE} : wScrAt wa wb ⟨sl, st⟩ k x = wa ⟨sl, st⟩ (fun y r1 => wb r1 (fun z r2 => isScr y fun ns => isI z fun i => match atI ns i with
  | some n => k (.d (.int n)) r2
  | none => False) x) x := Eq.trans rfl rfl
/-! statements -/
@[simp ↓] theorem e_next : wNext ⟨sl, st⟩ p = p.nx ⟨sl, st⟩ := Eq.trans rfl rfl
@[simp ↓] theorem e_seq {a b : WS} : wSeq a b ⟨sl, st⟩ p = a ⟨sl, st⟩ { p with nx := fun r1 => b r1 p } := Eq.trans rfl rfl
@[simp ↓] theorem e_drop {w : WE} : wDrop w ⟨sl, st⟩ p = w ⟨sl, st⟩ (fun _ r1 => p.nx r1) p.ex := Eq.trans rfl rfl
@[simp ↓] theorem e_ret {w : WE} : wRet w ⟨sl, st⟩ p = w ⟨sl, st⟩ p.rt p.ex := Eq.trans rfl rfl
@[simp ↓] theorem e_retN : wRetN ⟨sl, st⟩ p = p.rt (.d .none) ⟨sl, st⟩ := Eq.trans rfl rfl
@[simp ↓] theorem e_brk : wBrk ⟨sl, st⟩ p = p.bk ⟨sl, st⟩ := Eq.trans rfl rfl
@[simp ↓] theorem e_cnt : wCnt ⟨sl, st⟩ p = p.ct ⟨sl, st⟩ := Eq.trans rfl rfl
@[simp ↓] theorem e_ifS {t : WT} {a b : WS} : wIfS t a b ⟨sl, st⟩ p = t ⟨sl, st⟩ (fun c r1 => if c = true then a r1 p else b r1 p) p.ex := by
  unfold wIfS
  congr 1; funext b r1; cases b <;> rfl
@[simp ↓] theorem e_set {w : WE} : wSet i w ⟨sl, st⟩ p = w ⟨sl, st⟩ (fun y r1 => p.nx (r1.put i y)) p.ex := Eq.trans rfl rfl
@[simp ↓] theorem e_par {is : List Nat} {ws : WA} : wPar is ws ⟨sl, st⟩ p = ws ⟨sl, st⟩ (fun ys r1 => putMany is ys r1 p.nx) p.ex := Eq.trans rfl rfl
@[simp ↓] theorem e_pm0 {k : Env → Prop} : putMany [] [] r k = k r := Eq.trans rfl rfl
@[simp ↓] theorem e_pm1 {is : List Nat} {k : Env → Prop} : putMany (i :: is) (y :: ys) r k = putMany is ys (r.put i y) k := Eq.trans rfl rfl
@[simp ↓] theorem e_asg {k : Env → Prop} : asgT (.nm i) d r k = k (r.put i (.d d)) := Eq.trans rfl rfl
@[simp ↓] theorem e_asgT {is : List Nat} {k : Env → Prop} : asgT (.tp is) (.tuple ds) r k = putMany is (ds.map R.d) r k := Eq.trans rfl rfl
@[simp ↓] theorem e_unp {is : List Nat} {we : WE} : wUnp is we ⟨sl, st⟩ p = we ⟨sl, st⟩ (fun y r1 => match y with
  | .d d => asgT (.tp is) d r1 p.nx
  | _ => False) p.ex := Eq.trans rfl rfl
@[simp ↓] theorem e_unpL {is : List Nat} {we : WE} : wUnpL is we ⟨sl, st⟩ p = we ⟨sl, st⟩ (fun y r1 => dref y r1 fun d => match d with
  | .list ds => putMany is (ds.map R.d) r1 p.nx
  | _ => False) p.ex := Eq.trans rfl rfl
@[simp ↓] theorem e_aug {g : G2} {we : WE} : wAug g i we ⟨sl, st⟩ p = wVar i ⟨sl, st⟩ (fun a _ => we ⟨sl, st⟩ (fun b r1 => dref a r1 fun da => dref b r1 fun db => g da db fun d => p.nx (r1.put i (.d d))) p.ex) p.ex := Eq.trans rfl rfl
@[simp ↓] theorem e_setI {wo wi we : WE} : wSetI wo wi we ⟨sl, st⟩ p = we ⟨sl, st⟩ (fun y r1 => wo r1 (fun o r2 => wi r2 (fun i r3 => isL o fun n => isI i fun z => frz y r3 fun d r4 => lstAt r4 n fun cur => match ixN cur.length z with
  | some j => p.nx (stPut r4 n (cur.set j d))
  | none => False) p.ex) p.ex) p.ex := Eq.trans rfl rfl
@[simp ↓] theorem e_raise {cn : Str} : wRaise cn ⟨sl, st⟩ p = p.ex ⟨cn, []⟩ ⟨sl, st⟩ := Eq.trans rfl rfl
@[simp ↓] theorem e_for {t : Tg} {wi : WI} {wb : WS} : wFor t wi wb ⟨sl, st⟩ p = wi ⟨sl, st⟩ (fun ds r1 => loopF t wb p ds r1) p.ex := Eq.trans rfl rfl
@[simp ↓] theorem e_it {we : WE} : wIt we ⟨sl, st⟩ kl x = we ⟨sl, st⟩ (fun y r1 => frz y r1 fun d r2 => itemsD d fun ds => kl ds r2) x := Eq.trans rfl rfl
@[simp ↓] theorem e_itL {k : List D → Prop} : itemsD (.list ds) k = k ds := Eq.trans rfl rfl
@[simp ↓] theorem e_itT {k : List D → Prop} : itemsD (.tuple ds) k = k ds := Eq.trans rfl rfl
@[simp ↓] theorem e_itS {z : Str} {k : List D → Prop} : itemsD (.str z) k = k (signs z) := Eq.trans rfl rfl
@[simp ↓] theorem e_rng {g : List D → (List D → Prop) → Prop} {wr : WA} : wRng g wr ⟨sl, st⟩ kl x = wr ⟨sl, st⟩ (fun ys r1 => drefs ys r1 fun ds => g ds fun is => kl is r1) x := Eq.trans rfl rfl
@[simp ↓] theorem e_rng1 {j : Int} {k : List D → Prop} : rng1 [.int j] k = (-(2 ^ 62) ≤ j ∧ j < 2 ^ 62 ∧ k (intR 0 j.toNat)) := Eq.trans rfl rfl
@[simp ↓] theorem e_rng2 {i j : Int} {k : List D → Prop} : rng2 [.int i, .int j] k = ((-(2 ^ 62) ≤ i ∧ i < 2 ^ 62 ∧ -(2 ^ 62) ≤ j ∧ j < 2 ^ 62) ∧ k (intR i (j - i).toNat)) := Eq.trans rfl rfl
@[simp ↓] theorem e_zip {wr : WA} : wZip wr ⟨sl, st⟩ kl x = wr ⟨sl, st⟩ (fun ys r1 => frzs ys r1 fun ds r2 => match ds with
  | [.list a, .list b] => kl (pairs a b) r2
  | [.tuple a, .tuple b] => kl (pairs a b) r2
  | _ => False) x := Eq.trans rfl rfl
@[simp ↓] theorem e_zipM {wr : WA} : wZipM wr ⟨sl, st⟩ kl x = wr ⟨sl, st⟩ (fun ys r1 => frzs ys r1 fun ds r2 => match ds with
  | [.tuple a, .list b] => kl (pairs a b) r2
  | _ => False) x := Eq.trans rfl rfl
@[simp ↓] theorem e_enum {wr : WA} : wEnum wr ⟨sl, st⟩ kl x = wr ⟨sl, st⟩ (fun ys r1 => frzs ys r1 fun ds r2 => match ds with
  | [.list a] => kl (pairs (intR 0 a.length) a) r2
  | _ => False) x := Eq.trans rfl rfl
/-- a comprehension over what is to be walked -/
def lcR (t : Tg) (wt : WT) (we : WE) (vs : List Nat) (ds : List D) (r : Env) (kl : List D → Env → Prop) : Prop := loopC t wt we vs (fun acc r2 => kl acc (r2.mend r vs)) ds [] r
@[simp ↓] theorem e_lc {t : Tg} {wi : WI} {wt : WT} {we : WE} {vs : List Nat} : wLc t wi wt we vs ⟨sl, st⟩ kl x = wi ⟨sl, st⟩ (fun ds r1 => lcR t wt we vs ds r1 kl) x := Eq.trans rfl rfl
@[simp ↓] theorem e_frzE {we : WE} : wFrz we ⟨sl, st⟩ k x = we ⟨sl, st⟩ (fun y r1 => frz y r1 fun d r2 => k (.d d) r2) x := Eq.trans rfl rfl
@[simp ↓] theorem e_yes : wYes ⟨sl, st⟩ kt x = kt true ⟨sl, st⟩ := Eq.trans rfl rfl
@[simp ↓] theorem e_lstRg {w : WRg} : wLstRg w ⟨sl, st⟩ kl x = w ⟨sl, st⟩ (fun a b r1 => RgOk a b ∧ kl (rgD a b) r1) x := Eq.trans rfl rfl
@[simp ↓] theorem e_tupRg {w : WRg} : wTupRg w ⟨sl, st⟩ k x = w ⟨sl, st⟩ (fun a b r1 => RgOk a b ∧ k (.d (.tuple (rgD a b))) r1) x := Eq.trans rfl rfl
@[simp ↓] theorem e_rg1 {w : WE} {kr : Int → Int → Env → Prop} : wRg1 w ⟨sl, st⟩ kr x = w ⟨sl, st⟩ (fun y r1 => isI y fun n => kr 0 n r1) x := Eq.trans rfl rfl
@[simp ↓] theorem e_rg2 {w u : WE} {kr : Int → Int → Env → Prop} : wRg2 w u ⟨sl, st⟩ kr x = w ⟨sl, st⟩ (fun y r1 => u r1 (fun z r2 => isI y fun i => isI z fun j => kr i j r2) x) x := Eq.trans rfl rfl
@[simp ↓] theorem e_revL {w : WE} : wRevL w ⟨sl, st⟩ kl x = w ⟨sl, st⟩ (fun y r1 => dref y r1 fun d => match d with
  | .list ds => kl ds.reverse r1
  | _ => False) x := Eq.trans rfl rfl
theorem revZ_S {a : List Nat} : revZ (S a) = S a.reverse := by
  show (⟨(a.toArray).toList.reverse.toArray⟩ : Str) = ⟨a.reverse.toArray⟩
  simp
@[simp ↓] theorem e_revS {w : WE} : wRevS w ⟨sl, st⟩ k x = w ⟨sl, st⟩ (fun y r1 => dref y r1 fun d => match d with
  | .str z => z.length ≤ sizeLine ∧ k (.d (.str (revZ z))) r1
  | _ => False) x := Eq.trans rfl rfl
@[simp ↓] theorem e_lst3 {wr : WA} : wLst3 wr ⟨sl, st⟩ kl x = wr ⟨sl, st⟩ (fun ys r1 => drefs ys r1 fun ds => match ds with
  | [.int i, .int j, .int c] => c = -1 ∧ (-(2 ^ 62) ≤ i ∧ i < 2 ^ 62 ∧ -(2 ^ 62) ≤ j ∧ j < 2 ^ 62) ∧ (i - j).toNat ≤ 2 ^ 24 ∧ kl (intRC i (-1) (i - j).toNat) r1
  | _ => False) x := Eq.trans rfl rfl
@[simp ↓] theorem e_isi {T : String} {we : WE} : wIsi T we ⟨sl, st⟩ k x = we ⟨sl, st⟩ (fun y r1 => dref y r1 fun d => k (.d (.bool (isiD T d))) r1) x := Eq.trans rfl rfl
@[simp ↓] theorem e_isi2 {T U : String} {we : WE} : wIsi2 T U we ⟨sl, st⟩ k x = we ⟨sl, st⟩ (fun y r1 => dref y r1 fun d => k (.d (.bool (isiD T d || isiD U d))) r1) x := Eq.trans rfl rfl
/-! calls -/
@[simp ↓] theorem e_call {G : FS} {wr : WA} : wCall n G wr ⟨sl, st⟩ k x = wr ⟨sl, st⟩ (fun ys r1 => ys.length = n ∧ G ys r1.st (fun y st' => k y ⟨r1.sl, st'⟩) (fun e st' => x e ⟨r1.sl, st'⟩)) x := Eq.trans rfl rfl
@[simp ↓] theorem e_callK0 {m : Nat} {G : FS} {o : List Nat} {wk : WA} : wCallK0 n m G o wk ⟨sl, st⟩ k x = wk ⟨sl, st⟩ (fun zs r2 => zs.length = m ∧ (pick o zs).length = n ∧ G (pick o zs) r2.st (fun y st' => k y ⟨r2.sl, st'⟩) (fun e st' => x e ⟨r2.sl, st'⟩)) x := Eq.trans rfl rfl
@[simp ↓] theorem e_callKP {np m : Nat} {G : FS} {o : List Nat} {wr wk : WA} : wCallKP n np m G o wr wk ⟨sl, st⟩ k x = wr ⟨sl, st⟩ (fun ys r1 => ys.length = np ∧ wk r1 (fun zs r2 => zs.length = m ∧ (pick o (ys ++ zs)).length = n ∧ G (pick o (ys ++ zs)) r2.st (fun y st' => k y ⟨r2.sl, st'⟩) (fun e st' => x e ⟨r2.sl, st'⟩)) x) x := Eq.trans rfl rfl
@[simp ↓] theorem e_pick0 {α : Type} {l : List α} : pick [] l = [] := Eq.trans rfl rfl
@[simp ↓] theorem e_pick1 {α : Type} {l : List α} {o : List Nat} : pick (i :: o) l = match l[i]? with
  | some a => a :: pick o l
  | none => pick o l := by
  unfold pick
  rw [List.filterMap_cons]
  cases l[i]? <;> rfl
@[simp ↓] theorem e_find {m : Nat} {k : R → Sto → Prop} : fin m (.d d) st k = k (.d d) (st.take m) := Eq.trans rfl rfl
@[simp ↓] theorem e_fino {m : Nat} {b : Ob} {k : R → Sto → Prop} : fin m (.o b) st k = k (.o b) (st.take m) := Eq.trans rfl rfl
theorem e_finl {m : Nat} {k : R → Sto → Prop} : fin m (.l n) st k = if n < m then k (.l n) (st.take m) else match st[n]? with
    | some (some ds) => k (.l m) (st.take m ++ [some ds])
    | _ => False := Eq.trans rfl rfl
theorem e_run {w : WS} {k : R → Sto → Prop} {x : Exn → Sto → Prop} : runF n w ys st k x = w ⟨ys.map some ++ List.replicate (n - ys.length) none, st⟩
  ⟨fun r => k (.d .none) (r.st.take st.length), fun y r => fin st.length y r.st k, fun _ => False, fun _ => False, fun e r => x e (r.st.take st.length)⟩ := Eq.trans rfl rfl
end
/-! ### the operations on what they are used at -/
section
variable {i j : Int} {k : D → Prop} {kb : Bool → Prop} {ds es : List D} {a b : List Nat} {d e : D} {kl : List D → Prop} {z w : Str}
theorem S_len : (S a).length = a.length := by
  show (a.toArray).size = _
  simp
theorem S_app : S a ++ S b = S (a ++ b) := by
  show (⟨a.toArray ++ b.toArray⟩ : Str) = ⟨(a ++ b).toArray⟩
  simp
theorem S_inj : (S a = S b) ↔ a = b := by
  constructor
  · intro h
    have h2 : a.toArray = b.toArray := by
      injection h
    simpa using h2
  · intro h
    rw [h]
theorem S_beq : (S a == S b) = decide (a = b) := by
  by_cases h : a = b
  · subst h
    simp
  · rw [decide_eq_false h]
    refine beq_eq_false_iff_ne.mpr fun q => h (S_inj.mp q)
theorem signs_S : signs (S a) = a.map sign := by
  show (a.toArray).toList.map sign = _
  simp
theorem sign_S {c : Nat} : sign c = .str (S [c]) := rfl
@[simp ↓] theorem g_add : gAdd (.int i) (.int j) k = k (.int (i + j)) := Eq.trans rfl rfl
theorem g_addS : gAdd (.str (S a)) (.str (S b)) k = (a.length + b.length ≤ sizeLine ∧ k (.str (S (a ++ b)))) := by
  show ((S a).length + (S b).length ≤ sizeLine ∧ k (.str (S a ++ S b))) = _
  rw [S_len, S_len, S_app]
@[simp ↓] theorem g_addT : gAdd (.tuple ds) (.tuple es) k = (ds.length + es.length ≤ sizeLine ∧ k (.tuple (ds ++ es))) := Eq.trans rfl rfl
@[simp ↓] theorem g_addLL : gAdd (.list ds) (.list es) k = (ds.length + es.length ≤ sizeLine ∧ k (.list (ds ++ es))) := Eq.trans rfl rfl
@[simp ↓] theorem g_addL : gAddL (.list ds) (.list es) kl = (ds.length + es.length ≤ sizeLine ∧ kl (ds ++ es)) := Eq.trans rfl rfl
@[simp ↓] theorem g_sub : gSub (.int i) (.int j) k = k (.int (i - j)) := Eq.trans rfl rfl
@[simp ↓] theorem g_mul : gMul (.int i) (.int j) k = (i.natAbs.log2 + j.natAbs.log2 < 1000000 ∧ k (.int (i * j))) := Eq.trans rfl rfl
@[simp ↓] theorem g_mulC : gMulC (.int i) (.int j) k = ((-(2 ^ 64) < j ∧ j < 2 ^ 64) ∧ k (.int (i * j))) := Eq.trans rfl rfl
@[simp ↓] theorem g_mulLL : gMul (.list ds) (.int j) k = (-(2 ^ 63) ≤ j ∧ j < 2 ^ 63 ∧ ds.length * j.toNat ≤ sizeLine ∧ k (.list (List.replicate j.toNat ds).flatten)) := Eq.trans rfl rfl
theorem g_mulS : gMul (.str (S a)) (.int j) k = (j ≤ 100000 ∧ -100000 ≤ j ∧ a.length ≤ 100 ∧ k (.str (S (List.replicate j.toNat a).flatten))) := by
  show (j ≤ 100000 ∧ -100000 ≤ j ∧ (S a).length ≤ 100 ∧ k (.str ⟨(List.replicate j.toNat a.toArray.toList).flatten.toArray⟩)) = _
  rw [S_len]
@[simp ↓] theorem g_mulL : gMulL (.list ds) (.int j) kl = (-(2 ^ 63) ≤ j ∧ j < 2 ^ 63 ∧ ds.length * j.toNat ≤ sizeLine ∧ kl (List.replicate j.toNat ds).flatten) := Eq.trans rfl rfl
@[simp ↓] theorem g_div : gDiv (.int i) (.int j) k = ((0 < j ∧ j.natAbs.log2 < 9000) ∧ k (.int (i / j))) := Eq.trans rfl rfl
@[simp ↓] theorem g_mod : gMod (.int i) (.int j) k = (0 < j ∧ k (.int (i % j))) := Eq.trans rfl rfl
@[simp ↓] theorem g_pow : gPow (.int i) (.int j) k = ((0 ≤ j ∧ j ≤ 1000 ∧ i.natAbs.log2 < 100000) ∧ k (.int (i ^ j.toNat))) := Eq.trans rfl rfl
@[simp ↓] theorem g_neg : gNeg (.int i) k = k (.int (-i)) := Eq.trans rfl rfl
@[simp ↓] theorem g_iadd : gIAdd (.int i) (.int j) k = k (.int (i + j)) := Eq.trans rfl rfl
theorem g_iaddS : gIAdd (.str (S a)) (.str (S b)) k = (a.length + b.length ≤ sizeLine ∧ k (.str (S (a ++ b)))) := by
  show ((S a).length + (S b).length ≤ sizeLine ∧ k (.str (S a ++ S b))) = _
  rw [S_len, S_len, S_app]
theorem g_eqS : gEq (.str (S a)) (.str (S b)) kb = kb (decide (a = b)) := by
  show kb (S a == S b) = _
  rw [S_beq]
theorem g_neS : gNe (.str (S a)) (.str (S b)) kb = kb (!decide (a = b)) := by
  show kb (!(S a == S b)) = _
  rw [S_beq]
theorem shp_int : shp (.int i) = true := by
  show (PyData.canLay0 (.int i) && decide ((PyData.int i).depth ≤ 64)) = true
  simp [PyData.canLay0, PyData.depth]
theorem shp_bool {b : Bool} : shp (.bool b) = true := by
  show (PyData.canLay0 (.bool b) && decide ((PyData.bool b).depth ≤ 64)) = true
  simp [PyData.canLay0, PyData.depth]
theorem g_eq : gEq (.int i) (.int j) kb = kb (decide (i = j)) := by
  show (shp (.int i) = true ∧ shp (.int j) = true ∧ kb (eqd (.int i) (.int j))) = _
  have e : eqd (.int i) (.int j) = decide (i = j) := by
    show PyData.eqv (.int i) (.int j) = _
    simp [PyData.eqv]
    rfl
  rw [shp_int, shp_int, e]
  simp
theorem g_ne : gNe (.int i) (.int j) kb = kb (!decide (i = j)) := by
  show gEq (.int i) (.int j) (fun b => kb (!b)) = _
  rw [g_eq]
theorem g_eqB {b c : Bool} : gEq (.bool b) (.bool c) kb = kb (decide (b = c)) := by
  show (shp (.bool b) = true ∧ shp (.bool c) = true ∧ kb (eqd (.bool b) (.bool c))) = _
  have e : eqd (.bool b) (.bool c) = decide (b = c) := by
    cases b <;> cases c <;> (show PyData.eqv _ _ = _) <;> simp [PyData.eqv]
  rw [shp_bool, shp_bool, e]
  simp
theorem g_neB {b c : Bool} : gNe (.bool b) (.bool c) kb = kb (!decide (b = c)) := by
  show gEq (.bool b) (.bool c) (fun b => kb (!b)) = _
  rw [g_eqB]
@[simp ↓] theorem g_lt : gLt (.int i) (.int j) kb = kb (decide (i < j)) := Eq.trans rfl rfl
@[simp ↓] theorem g_le : gLe (.int i) (.int j) kb = kb (decide (i ≤ j)) := Eq.trans rfl rfl
@[simp ↓] theorem g_gt : gGt (.int i) (.int j) kb = kb (decide (j < i)) := Eq.trans rfl rfl
@[simp ↓] theorem g_ge : gGe (.int i) (.int j) kb = kb (decide (j ≤ i)) := Eq.trans rfl rfl
@[simp ↓] theorem g_inS {c : Nat} : gIn (.str (S [c])) (.str (S a)) kb = kb (decide (c ∈ a)) := Eq.trans rfl rfl
@[simp ↓] theorem g_notinS {c : Nat} : gNotIn (.str (S [c])) (.str (S a)) kb = kb (!decide (c ∈ a)) := Eq.trans rfl rfl
theorem g_ixLs {k : D → Prop} (h : atI ds i = some d) : gIx (.list ds) (.int i) k = k d := by
  show (match atI ds i with
    | some d => k d
    | none => False) = _
  rw [h]
theorem g_ixTs {k : D → Prop} (h : atI ds i = some d) : gIx (.tuple ds) (.int i) k = k d := by
  show (match atI ds i with
    | some d => k d
    | none => False) = _
  rw [h]
theorem g_ixL {k : D → Prop} : gIx (.list ds) (.int i) k = match atI ds i with
  | some d => k d
  | none => False := Eq.trans rfl rfl
theorem g_ixT {k : D → Prop} : gIx (.tuple ds) (.int i) k = match atI ds i with
  | some d => k d
  | none => False := Eq.trans rfl rfl
theorem g_ixS {k : D → Prop} : gIx (.str (S a)) (.int i) k = (a.length ≤ sizeLine ∧ match atI a i with
  | some c => k (.str (S [c]))
  | none => False) := by
  show ((S a).length ≤ sizeLine ∧ _) = _
  rw [S_len]
  rfl
@[simp ↓] theorem g_lenL {k : D → Prop} : gLen [.list ds] k = k (.int ds.length) := Eq.trans rfl rfl
@[simp ↓] theorem g_lenT {k : D → Prop} : gLen [.tuple ds] k = k (.int ds.length) := Eq.trans rfl rfl
theorem g_lenS {k : D → Prop} : gLen [.str (S a)] k = (a.length ≤ sizeLine ∧ k (.int a.length)) := by
  show ((S a).length ≤ sizeLine ∧ k (.int (S a).length)) = _
  rw [S_len]
@[simp ↓] theorem g_max2 : gMax [.int i, .int j] k = k (.int (max i j)) := Eq.trans rfl rfl
@[simp ↓] theorem g_min2 : gMin [.int i, .int j] k = k (.int (min i j)) := Eq.trans rfl rfl
@[simp ↓] theorem g_intB {b : Bool} : gInt [.bool b] k = k (.int (if b = true then 1 else 0)) := Eq.trans rfl rfl
@[simp ↓] theorem g_intI : gInt [.int i] k = k (.int i) := Eq.trans rfl rfl
@[simp ↓] theorem g_tupL : gTuple [.list ds] k = k (.tuple ds) := Eq.trans rfl rfl
@[simp ↓] theorem g_tupT : gTuple [.tuple ds] k = k (.tuple ds) := Eq.trans rfl rfl
@[simp ↓] theorem g_lstAL : gListA [.list ds] kl = kl ds := Eq.trans rfl rfl
@[simp ↓] theorem g_lstAT : gListA [.tuple ds] kl = kl ds := Eq.trans rfl rfl
theorem g_lstAS : gListA [.str (S a)] kl = (a.length ≤ sizeLine ∧ kl (a.map sign)) := by
  show ((S a).length ≤ sizeLine ∧ kl (signs (S a))) = _
  rw [S_len, signs_S]
@[simp ↓] theorem g_lstL : gListL [.list ds] kl = kl ds := Eq.trans rfl rfl
@[simp ↓] theorem g_lstT : gListL [.tuple ds] kl = kl ds := Eq.trans rfl rfl
theorem g_all {bs : List Bool} (h : boolsD ds = some bs) : gAll [.list ds] k = k (.bool (bs.all id)) := by
  show withO (boolsD ds) _ = _
  rw [h]
  rfl
theorem g_any {bs : List Bool} (h : boolsD ds = some bs) : gAny [.list ds] k = k (.bool (bs.any id)) := by
  show withO (boolsD ds) _ = _
  rw [h]
  rfl
theorem g_slS {lo hi : Option Int} : gSl (.str (S a)) lo hi k = (a.length ≤ sizeLine ∧ k (.str (S (cut a lo hi)))) := by
  show ((S a).length ≤ sizeLine ∧ _) = _
  rw [S_len]
@[simp ↓] theorem g_slL {lo hi : Option Int} : gSl (.list ds) lo hi k = k (.list (cut ds lo hi)) := Eq.trans rfl rfl
@[simp ↓] theorem g_slT {lo hi : Option Int} : gSl (.tuple ds) lo hi k = k (.tuple (cut ds lo hi)) := Eq.trans rfl rfl
@[simp ↓] theorem g_slLL {lo hi : Option Int} : gSlL (.list ds) lo hi kl = kl (cut ds lo hi) := Eq.trans rfl rfl
@[simp] theorem i_str {T : String} : isiD T (.str z) = decide (T = "str") := by
  simp [isiD, tyS, eq_comm]
@[simp] theorem i_list {T : String} : isiD T (.list ds) = decide (T = "list") := by
  simp [isiD, tyS, eq_comm]
@[simp] theorem i_tup {T : String} : isiD T (.tuple ds) = decide (T = "tuple") := by
  simp [isiD, tyS, eq_comm]
@[simp] theorem i_int {T : String} : isiD T (.int i) = decide (T = "int") := by
  simp [isiD, tyS, eq_comm]
@[simp] theorem i_none {T : String} : isiD T .none = decide (T = "NoneType") := by
  simp [isiD, tyS, eq_comm]
@[simp] theorem i_bool {T : String} {b : Bool} : isiD T (.bool b) = (decide (T = "bool") || decide (T = "int")) := by
  simp [isiD, tyS, eq_comm]
theorem cut_dropLast {α : Type} {l : List α} : cut l none (some (-1)) = l.dropLast := by
  have e : HT.sIx l.length l.length (some (-1)) = l.length - 1 := by
    show (if (-1 : Int) < 0 then ((-1 : Int) + (l.length : Int)).toNat else min (-1 : Int).toNat l.length) = _
    rw [if_pos (by decide)]
    omega
  unfold cut
  rw [HT.sIx_none, e, List.drop_zero, Nat.sub_zero, List.dropLast_eq_take]
theorem atI_nat {α : Type} {l : List α} {n : Nat} : atI l (n : Int) = l[n]? := by
  unfold atI ixN
  rw [if_pos (Int.natCast_nonneg n)]
  by_cases h : n < l.length
  · rw [if_pos (by omega)]
    rfl
  · rw [if_neg (by omega), List.getElem?_eq_none (by omega)]
    rfl
end
/-! ### loops -/
theorem loopF_inv {t : Tg} {wb : WS} {p : Post} (I : List D → Env → Prop) (hstep : ∀ d ds r K, (∀ r', I ds r' → K r') → I (d :: ds) r → asgT t d r fun r1 => wb r1 { p with nx := K, ct := K, bk := p.nx })
    (hend : ∀ r, I [] r → p.nx r) : ∀ ds r, I ds r → loopF t wb p ds r
  | [], r, h => hend r h
  | d :: ds, r, h => hstep d ds r (loopF t wb p ds) (loopF_inv I hstep hend ds) h
theorem wipeL_get {α : Type} {l : List (Option α)} {i : Nat} : ∀ {vs : List Nat}, (wipeL l vs)[i]? = if i ∈ vs ∧ i < l.length then some none else l[i]?
  | [] => by simp [wipeL]
  | v :: vs => by
    show ((wipeL l vs).set v none)[i]? = _
    rw [List.getElem?_set]
    by_cases hv : v = i
    · subst hv
      rw [if_pos rfl, wipeL_len]
      by_cases hl : v < l.length
      · rw [if_pos hl, if_pos ⟨by simp, hl⟩]
      · rw [if_neg hl, if_neg (fun z => hl z.2), List.getElem?_eq_none (by omega)]
    · rw [if_neg hv, wipeL_get]
      by_cases h : i ∈ vs
      · simp [h]
      · have : i ∉ v :: vs := by
          simp [h]
          exact fun z => hv z.symm
        simp [h, this]
theorem mendL_get {r : Env} {l : List (Option R)} {i : Nat} : ∀ {vs : List Nat}, (mendL r l vs)[i]? = if i ∈ vs ∧ i < l.length then some (heldD r i) else l[i]?
  | [] => by simp [mendL]
  | v :: vs => by
    show ((mendL r l vs).set v (heldD r v))[i]? = _
    rw [List.getElem?_set]
    by_cases hv : v = i
    · subst hv
      rw [if_pos rfl, mendL_len]
      by_cases hl : v < l.length
      · rw [if_pos hl, if_pos ⟨by simp, hl⟩]
      · rw [if_neg hl, if_neg (fun z => hl z.2), List.getElem?_eq_none (by omega)]
    · rw [if_neg hv, mendL_get]
      by_cases h : i ∈ vs
      · simp [h]
      · have : i ∉ v :: vs := by
          simp [h]
          exact fun z => hv z.symm
        simp [h, this]
theorem mend_ok {sl : List (Option R)} {st st' : Sto} {r : Env} {vs : List Nat} (h : wipeL r.sl vs = wipeL sl vs) (hs : r.st = st') (hv : ∀ v ∈ vs, v < sl.length → sl[v]? = some (heldD ⟨sl, st⟩ v)) : r.mend ⟨sl, st⟩ vs = ⟨sl, st'⟩ := by
  have hl : r.sl.length = sl.length := by
    have := congrArg List.length h
    rwa [wipeL_len, wipeL_len] at this
  show (⟨mendL ⟨sl, st⟩ r.sl vs, r.st⟩ : Env) = _
  rw [hs]
  congr 1
  apply List.ext_getElem?
  intro i
  rw [mendL_get]
  by_cases hi : i ∈ vs ∧ i < r.sl.length
  · rw [if_pos hi, hv i hi.1 (by omega)]
  · rw [if_neg hi]
    have h2 : (wipeL r.sl vs)[i]? = (wipeL sl vs)[i]? := by rw [h]
    rw [wipeL_get, wipeL_get, if_neg hi, if_neg (by rw [← hl]; exact hi)] at h2
    exact h2
theorem wipe_set1 {α : Type} {l : List (Option α)} {i : Nat} {v : Option α} : (l.set i v).set i none = l.set i none := List.set_set ..
/-- a comprehension that changes nothing of the store, over any list -/
theorem lc_pure {α : Type} {t : Tg} {wt : WT} {we : WE} {vs : List Nat} {sl : List (Option R)} {st : Sto} (e : α → D) (p : α → Bool) (f : α → D) (env : α → List (Option R)) {k : List D → Env → Prop}
    (hv : ∀ v ∈ vs, v < sl.length → sl[v]? = some (heldD ⟨sl, st⟩ v)) : ∀ (l : List α) (acc : List D) (r : Env), r.wipe vs = ⟨wipeL sl vs, st⟩ →
    (∀ d ∈ l, ∀ K : Env → Prop, K ⟨env d, st⟩ → asgT t (e d) ⟨wipeL sl vs, st⟩ K) → (∀ d ∈ l, wipeL (env d) vs = wipeL sl vs) →
    (∀ d ∈ l, ∀ K X, K (p d) ⟨env d, st⟩ → wt ⟨env d, st⟩ K X) →
    (∀ d ∈ l, p d = true → ∀ (K : KE) X, K (.d (f d)) ⟨env d, st⟩ → we ⟨env d, st⟩ K X) →
    acc.length + l.length ≤ sizeLine → k (acc ++ (l.filter p).map f) ⟨sl, st⟩ → loopC t wt we vs (fun acc r2 => k acc (r2.mend ⟨sl, st⟩ vs)) (l.map e) acc r
  | [], acc, r, hw, _, _, _, _, _, h => by
    show k acc (r.mend ⟨sl, st⟩ vs)
    have h1 : wipeL r.sl vs = wipeL sl vs := congrArg Env.sl hw
    have h2 : r.st = st := congrArg Env.st hw
    rw [mend_ok h1 h2 hv]
    simpa using h
  | d :: ds, acc, r, hw, ha, hb, ht, he, hz, h => by
    show asgT t (e d) (r.wipe vs) _
    rw [hw]
    refine ha d (by simp) _ (ht d (by simp) _ _ ?_)
    have ew : (⟨env d, st⟩ : Env).wipe vs = ⟨wipeL sl vs, st⟩ := by
      show (⟨wipeL (env d) vs, st⟩ : Env) = _
      rw [hb d (by simp)]
    have go := fun acc' hz' h' => lc_pure (k := k) e p f env hv ds acc' ⟨env d, st⟩ ew (fun e m => ha e (List.mem_cons_of_mem _ m)) (fun e m => hb e (List.mem_cons_of_mem _ m)) (fun e m => ht e (List.mem_cons_of_mem _ m)) (fun e m => he e (List.mem_cons_of_mem _ m)) hz' h'
    rw [List.length_cons] at hz
    cases hp : p d with
    | true =>
      refine he d (by simp) hp _ _ ?_
      show acc.length < sizeLine ∧ _
      refine ⟨by omega, go (acc ++ [f d]) (by rw [List.length_append, List.length_singleton]; omega) ?_⟩
      rw [List.filter_cons_of_pos hp] at h
      simpa using h
    | false =>
      refine go acc (by omega) ?_
      rw [List.filter_cons_of_neg (by rw [hp]; simp)] at h
      exact h
/-- .. over one name -/
theorem lc1 {α : Type} {i : Nat} {wt : WT} {we : WE} {sl : List (Option R)} {st : Sto} (e : α → D) (p : α → Bool) (f : α → D) {l : List α} {k : List D → Env → Prop} {ds : List D} (hd : ds = l.map e)
    (ht : ∀ d ∈ l, ∀ K X, K (p d) ⟨sl.set i (some (.d (e d))), st⟩ → wt ⟨sl.set i (some (.d (e d))), st⟩ K X)
    (he : ∀ d ∈ l, p d = true → ∀ (K : KE) X, K (.d (f d)) ⟨sl.set i (some (.d (e d))), st⟩ → we ⟨sl.set i (some (.d (e d))), st⟩ K X)
    (hz : l.length ≤ sizeLine) (h : k ((l.filter p).map f) ⟨sl, st⟩) (hv : i < sl.length → sl[i]? = some (heldD ⟨sl, st⟩ i) := by intro _; rfl) : lcR (.nm i) wt we [i] ds ⟨sl, st⟩ k := by
  subst hd
  refine lc_pure e p f (fun d => sl.set i (some (.d (e d)))) (fun v hm => ?_) l [] ⟨sl, st⟩ rfl (fun d _ K hK => ?_) (fun d _ => ?_) ht he (by simpa using hz) (by simpa using h)
  · rw [List.mem_singleton.mp hm]
    exact hv
  · show K ⟨(sl.set i none).set i (some (.d (e d))), st⟩
    rw [List.set_set]
    exact hK
  · show (sl.set i (some (.d (e d)))).set i none = sl.set i none
    rw [List.set_set]
/-- .. every item taken -/
theorem lc1y {α : Type} {i : Nat} {we : WE} {sl : List (Option R)} {st : Sto} (e : α → D) (f : α → D) {l : List α} {k : List D → Env → Prop} {ds : List D} (hd : ds = l.map e)
    (he : ∀ d ∈ l, ∀ (K : KE) X, K (.d (f d)) ⟨sl.set i (some (.d (e d))), st⟩ → we ⟨sl.set i (some (.d (e d))), st⟩ K X)
    (hz : l.length ≤ sizeLine) (h : k (l.map f) ⟨sl, st⟩) (hv : i < sl.length → sl[i]? = some (heldD ⟨sl, st⟩ i) := by intro _; rfl) : lcR (.nm i) wYes we [i] ds ⟨sl, st⟩ k :=
  lc1 e (fun _ => true) f hd (fun _ _ _ _ hk => hk) (fun d m _ => he d m) hz (by
    rw [List.filter_eq_self.mpr (fun _ _ => rfl)]
    exact h) hv
/-- a loop that folds -/
theorem loopF_fold {α σ : Type} {t : Tg} {wb : WS} {p : Post} (e : α → D) (step : σ → α → σ) (Inv : List α → σ → Prop) (Rel : σ → Env → Prop)
    (hstep : ∀ a l s r K, Inv (a :: l) s → Rel s r → (∀ r', Rel (step s a) r' → K r') → asgT t (e a) r fun r1 => wb r1 { p with nx := K, ct := K, bk := p.nx })
    (hinv : ∀ a l s, Inv (a :: l) s → Inv l (step s a)) : ∀ (l : List α) (s : σ) (r : Env), Inv l s → Rel s r → (∀ r', Rel (l.foldl step s) r' → p.nx r') → loopF t wb p (l.map e) r
  | [], s, r, _, hr, h => h r hr
  | a :: l, s, r, hi, hr, h => hstep a l s r (loopF t wb p (l.map e)) hi hr fun r' hr' => loopF_fold e step Inv Rel hstep hinv l (step s a) r' (hinv a l s hi) hr' h
/-! ### stores -/
@[simp] theorem st_take {α : Type} {st : List α} {n : Nat} {v : α} : (st.set n v).take st.length = st.set n v := List.take_of_length_le (by simp)
@[simp] theorem st_take2 {α : Type} {st l : List α} : (st ++ l).take st.length = st := by simp
@[simp] theorem st_get0 {α : Type} {st l : List α} : (st ++ l)[st.length]? = l[0]? := by
  rw [List.getElem?_append_right (Nat.le_refl _), Nat.sub_self]
@[simp] theorem st_get1 {α : Type} {st l : List α} {j : Nat} : (st ++ l)[st.length + j]? = l[j]? := by
  rw [List.getElem?_append_right (by omega)]
  congr 1
  omega
@[simp] theorem st_set0 {α : Type} {st l : List α} {v : α} : (st ++ l).set st.length v = st ++ l.set 0 v := by
  rw [List.set_append_right _ _ (Nat.le_refl _), Nat.sub_self]
@[simp] theorem st_set1 {α : Type} {st l : List α} {v : α} {j : Nat} : (st ++ l).set (st.length + j) v = st ++ l.set j v := by
  rw [List.set_append_right _ _ (by omega)]
  congr 2
  omega
/-! ### in a tuple of texts -/
theorem strEqB {a b : List Nat} : eqd (.str (S b)) (.str (S a)) = decide (a = b) := by
  have e : eqd (.str (S b)) (.str (S a)) = (S b == S a) := by
    show PyData.eqv _ _ = _
    simp [PyData.eqv]
  rw [e, S_beq]
  by_cases h : a = b
  · simp [h]
  · rw [decide_eq_false h, decide_eq_false (fun z => h z.symm)]
theorem g_inT2 {a b c : List Nat} {kb : Bool → Prop} : gIn (.str (S a)) (.tuple [.str (S b), .str (S c)]) kb = kb (decide (a = b) || decide (a = c)) := by
  show (_ ∧ _ ∧ kb ([PyData.str (S b), .str (S c)].any fun z => eqd z (.str (S a)))) = _
  simp [strEqB, flatD]
theorem g_inT4 {a b c d e : List Nat} {kb : Bool → Prop} : gIn (.str (S a)) (.tuple [.str (S b), .str (S c), .str (S d), .str (S e)]) kb = kb (decide (a = b) || (decide (a = c) || (decide (a = d) || decide (a = e)))) := by
  show (_ ∧ _ ∧ kb ([PyData.str (S b), .str (S c), .str (S d), .str (S e)].any fun z => eqd z (.str (S a)))) = _
  simp [strEqB, flatD]
theorem sz {n : Nat} (h : n ≤ 1000000) : n ≤ sizeLine := by
  rw [sizeLine_eq]
  omega
theorem szlt {n : Nat} (h : n ≤ 1000000) : n < sizeLine := by
  rw [sizeLine_eq]
  omega
/-! ### places by number -/
theorem ixN_nat {n m : Nat} : ixN n (m : Int) = if m < n then some m else none := by
  unfold ixN
  rw [if_pos (Int.natCast_nonneg m)]
  by_cases h : m < n
  · rw [if_pos (by omega), if_pos h]
    rfl
  · rw [if_neg (by omega), if_neg h]
@[simp] theorem ixN_lit {n m : Nat} : ixN n (no_index (OfNat.ofNat m) : Int) = if (OfNat.ofNat m : Nat) < n then some (OfNat.ofNat m : Nat) else none := ixN_nat (m := m)
@[simp] theorem atI_lit {α : Type} {l : List α} {m : Nat} : atI l (no_index (OfNat.ofNat m) : Int) = l[(OfNat.ofNat m : Nat)]? := atI_nat (n := m)
@[simp] theorem atI_cast {α : Type} {l : List α} {m : Nat} : atI l (m : Int) = l[m]? := atI_nat
@[simp] theorem atI_last {α : Type} {l : List α} : atI l (-1) = l.getLast? := by
  unfold atI ixN
  rw [if_neg (by decide), List.getLast?_eq_getElem?]
  cases l with
  | nil => rfl
  | cons a l =>
    rw [if_pos (by rw [List.length_cons]; omega)]
    show (a :: l)[((-1 : Int) + ((a :: l).length : Nat)).toNat]? = _
    congr 1
    rw [List.length_cons]
    omega
theorem e_lstSet {sl : List (Option R)} {st : Sto} {n : Nat} {ds : List D} {k : List D → Prop} (h : n < st.length) : lstAt ⟨sl, st.set n (some ds)⟩ n k = k ds := e_lstAt (by rw [List.getElem?_set_self h])
@[simp ↓] theorem e_lstNew {sl : List (Option R)} {st : Sto} {ds : List D} {k : List D → Prop} {l : Sto} : lstAt ⟨sl, st ++ some ds :: l⟩ st.length k = k ds := e_lstAt (by simp)
@[simp ↓] theorem e_lstNew1 {sl : List (Option R)} {st : Sto} {ds : List D} {k : List D → Prop} {l : Sto} {j : Nat} : lstAt ⟨sl, st ++ l⟩ (st.length + j) k = lstAt ⟨sl, l⟩ j k := by
  unfold lstAt
  dsimp only
  rw [st_get1]
@[simp ↓] theorem e_lst0 {sl : List (Option R)} {ds : List D} {k : List D → Prop} {l : Sto} : lstAt ⟨sl, some ds :: l⟩ 0 k = k ds := Eq.trans rfl rfl
@[simp ↓] theorem e_lstS {sl : List (Option R)} {y : Option (List D)} {k : List D → Prop} {l : Sto} {j : Nat} : lstAt ⟨sl, y :: l⟩ (j + 1) k = lstAt ⟨sl, l⟩ j k := Eq.trans rfl rfl
@[simp ↓] theorem e_finNew {st : Sto} {ds : List D} {k : R → Sto → Prop} {l : Sto} : fin st.length (.l st.length) (st ++ some ds :: l) k = k (.l st.length) (st ++ [some ds]) := by
  rw [e_finl, if_neg (by omega), st_get0, st_take2]
  rfl
@[simp ↓] theorem e_finNew1 {st : Sto} {k : R → Sto → Prop} {l : Sto} {j : Nat} : fin st.length (.l (st.length + j)) (st ++ l) k = match l[j]? with
  | some (some ds) => k (.l st.length) (st ++ [some ds])
  | _ => False := by
  rw [e_finl, if_neg (by omega), st_get1, st_take2]
@[simp ↓] theorem e_lstNew_1 {sl : List (Option R)} {st : Sto} {ds : List D} {y0 : Option (List D)} {k : List D → Prop} {l : Sto} : lstAt ⟨sl, st ++ y0 :: some ds :: l⟩ (st.length + 1) k = k ds := e_lstNew1 (j := 1) (ds := ds)
@[simp] theorem st_get_1 {α : Type} {st l : List α} : (st ++ l)[st.length + 1]? = l[1]? := st_get1
@[simp] theorem st_set_1 {α : Type} {st l : List α} {v : α} : (st ++ l).set (st.length + 1) v = st ++ l.set 1 v := st_set1
@[simp ↓] theorem e_lstNew_2 {sl : List (Option R)} {st : Sto} {ds : List D} {y0 y1 : Option (List D)} {k : List D → Prop} {l : Sto} : lstAt ⟨sl, st ++ y0 :: y1 :: some ds :: l⟩ (st.length + 2) k = k ds := e_lstNew1 (j := 2) (ds := ds)
@[simp] theorem st_get_2 {α : Type} {st l : List α} : (st ++ l)[st.length + 2]? = l[2]? := st_get1
@[simp] theorem st_set_2 {α : Type} {st l : List α} {v : α} : (st ++ l).set (st.length + 2) v = st ++ l.set 2 v := st_set1
@[simp ↓] theorem e_lstNew_3 {sl : List (Option R)} {st : Sto} {ds : List D} {y0 y1 y2 : Option (List D)} {k : List D → Prop} {l : Sto} : lstAt ⟨sl, st ++ y0 :: y1 :: y2 :: some ds :: l⟩ (st.length + 3) k = k ds := e_lstNew1 (j := 3) (ds := ds)
@[simp] theorem st_get_3 {α : Type} {st l : List α} : (st ++ l)[st.length + 3]? = l[3]? := st_get1
@[simp] theorem st_set_3 {α : Type} {st l : List α} {v : α} : (st ++ l).set (st.length + 3) v = st ++ l.set 3 v := st_set1
@[simp] theorem kill_map {n : Nat} {d : D} {o : Option D} : Option.map (R.kill n d) (Option.map R.d o) = Option.map R.d o := by
  cases o <;> rfl
theorem mJ {l : List D} {a : List Nat} {zs : List Str} {k : D → Prop} (h : strsD l = some zs) : mJoin (.str (S a)) [.list l] k = ((zs.map (·.length)).sum + zs.length * a.length ≤ 16777216 ∧ k (.str (Txt.join (S a) zs))) := by
  show withO (strsD l) _ = _
  rw [h]
  show ((zs.map (·.length)).sum + zs.length * (S a).length ≤ 16777216 ∧ k (.str (Txt.join (S a) zs))) = _
  rw [S_len]
theorem sum_ones : ∀ l : List Nat, ((l.map fun c => S [c]).map (·.length)).sum = l.length
  | [] => rfl
  | c :: l => by
    rw [List.map_cons, List.map_cons, List.sum_cons, sum_ones l, List.length_cons]
    show 1 + l.length = l.length + 1
    omega
/-! ### lists that stand behind a store of a known length -/
section
variable {sl : List (Option R)} {st : Sto} {m n : Nat} {ds es : List D} {l : Sto} {v : Option (List D)}
theorem e_lstM {k : List D → Prop} (h : st.length = m) : lstAt ⟨sl, st ++ some ds :: l⟩ m k = k ds := by
  subst h
  exact e_lstNew
theorem e_setM (h : st.length = m) : (st ++ v :: l).set m (some es) = st ++ some es :: l := by
  subst h
  rw [st_set0]
  rfl
theorem e_setN (h : st.length = m) : (st ++ v :: l).set m none = st ++ none :: l := by
  subst h
  rw [st_set0]
  rfl
theorem e_setL (h : n < st.length) : (st ++ l).set n v = st.set n v ++ l := List.set_append_left _ _ h
theorem e_getL (h : n < st.length) : (st ++ l)[n]? = st[n]? := List.getElem?_append_left h
theorem e_takeM (h : st.length = m) : (st ++ l).take m = st := by
  subst h
  exact st_take2
theorem e_finM {k : R → Sto → Prop} (h : st.length = m) : fin m (.l m) (st ++ some ds :: l) k = k (.l m) (st ++ [some ds]) := by
  subst h
  exact e_finNew
end
/-- a comprehension that works on the store -/
theorem lcI {α : Type} {i : Nat} {we : WE} {sl : List (Option R)} (e : α → D) (I : List α → List D → Sto → Prop) {kl : List D → Env → Prop}
    (hstep : ∀ a l acc st (K : KE) X, I (a :: l) acc st → (∀ d st', I l (acc ++ [d]) st' → K (.d d) ⟨sl.set i (some (.d (e a))), st'⟩) → we ⟨sl.set i (some (.d (e a))), st⟩ K X)
    {l : List α} {st : Sto} {ds : List D} (hd : ds = l.map e) (hz : l.length ≤ sizeLine) (h0 : I l [] st) (hend : ∀ acc st', I [] acc st' → kl acc ⟨sl, st'⟩) (hv : i < sl.length → sl[i]? = some (heldD ⟨sl, st⟩ i) := by intro _; rfl) :
    lcR (.nm i) wYes we [i] ds ⟨sl, st⟩ kl := by
  subst hd
  have go : ∀ (l : List α) (acc : List D) (r : Env), r.sl.set i none = sl.set i none → acc.length + l.length ≤ sizeLine → I l acc r.st → loopC (.nm i) wYes we [i] (fun acc r2 => kl acc (r2.mend ⟨sl, st⟩ [i])) (l.map e) acc r := by
    intro l
    induction l with
    | nil =>
      intro acc r hr _ hI
      show kl acc (r.mend ⟨sl, st⟩ [i])
      rw [mend_ok (st' := r.st) (show wipeL r.sl [i] = wipeL sl [i] from hr) rfl (fun v hm => by
        rw [List.mem_singleton.mp hm]
        exact hv)]
      exact hend acc r.st hI
    | cons a l ih =>
      intro acc r hr hz hI
      show we ⟨(r.sl.set i none).set i (some (.d (e a))), r.st⟩ _ _
      rw [hr, List.set_set]
      rw [List.length_cons] at hz
      refine hstep a l acc r.st _ _ hI fun d st' hI' => ?_
      show acc.length < sizeLine ∧ _
      refine ⟨by omega, ih (acc ++ [d]) ⟨_, st'⟩ ?_ (by rw [List.length_append, List.length_singleton]; omega) hI'⟩
      show (sl.set i (some (.d (e a)))).set i none = sl.set i none
      rw [List.set_set]
  exact go l [] ⟨sl, st⟩ rfl (by simpa using hz) h0
/-- a comprehension over names, nothing of the store touched -/
theorem lcT {α : Type} {vs : List Nat} {we : WE} {wt : WT} {sl : List (Option R)} {st : Sto} (e : α → List D) (p : α → Bool) (f : α → D) (env : α → List (Option R)) {l : List α} {k : List D → Env → Prop} {ds : List D} (hd : ds = l.map fun a => .tuple (e a))
    (ha : ∀ a ∈ l, ∀ K : Env → Prop, K ⟨env a, st⟩ → putMany vs ((e a).map R.d) ⟨wipeL sl vs, st⟩ K) (hw : ∀ a ∈ l, wipeL (env a) vs = wipeL sl vs)
    (ht : ∀ d ∈ l, ∀ K X, K (p d) ⟨env d, st⟩ → wt ⟨env d, st⟩ K X)
    (he : ∀ d ∈ l, p d = true → ∀ (K : KE) X, K (.d (f d)) ⟨env d, st⟩ → we ⟨env d, st⟩ K X)
    (hz : l.length ≤ sizeLine) (h : k ((l.filter p).map f) ⟨sl, st⟩) (hv : ∀ v ∈ vs, v < sl.length → sl[v]? = some (heldD ⟨sl, st⟩ v) := by (intro v hv _; simp at hv; first | (rcases hv with rfl | rfl | rfl <;> rfl) | (rcases hv with rfl | rfl <;> rfl))) : lcR (.tp vs) wt we vs ds ⟨sl, st⟩ k := by
  subst hd
  exact lc_pure (fun a => .tuple (e a)) p f env hv l [] ⟨sl, st⟩ rfl ha hw ht he (by simpa using hz) (by simpa using h)
@[simp ↓] theorem g_ixL0 {d : D} {ds : List D} {k : D → Prop} : gIx (.list (d :: ds)) (.int 0) k = k d := g_ixLs (show atI _ (((0 : Nat)) : Int) = some d from atI_nat)
@[simp ↓] theorem g_ixT0 {d : D} {ds : List D} {k : D → Prop} : gIx (.tuple (d :: ds)) (.int 0) k = k d := g_ixTs (show atI _ (((0 : Nat)) : Int) = some d from atI_nat)
@[simp ↓] theorem g_ixL1 {a0 : D} {d : D} {ds : List D} {k : D → Prop} : gIx (.list (a0 :: d :: ds)) (.int 1) k = k d := g_ixLs (show atI _ (((1 : Nat)) : Int) = some d from atI_nat)
@[simp ↓] theorem g_ixT1 {a0 : D} {d : D} {ds : List D} {k : D → Prop} : gIx (.tuple (a0 :: d :: ds)) (.int 1) k = k d := g_ixTs (show atI _ (((1 : Nat)) : Int) = some d from atI_nat)
@[simp ↓] theorem g_ixL2 {a0 a1 : D} {d : D} {ds : List D} {k : D → Prop} : gIx (.list (a0 :: a1 :: d :: ds)) (.int 2) k = k d := g_ixLs (show atI _ (((2 : Nat)) : Int) = some d from atI_nat)
@[simp ↓] theorem g_ixT2 {a0 a1 : D} {d : D} {ds : List D} {k : D → Prop} : gIx (.tuple (a0 :: a1 :: d :: ds)) (.int 2) k = k d := g_ixTs (show atI _ (((2 : Nat)) : Int) = some d from atI_nat)
@[simp ↓] theorem g_ixL3 {a0 a1 a2 : D} {d : D} {ds : List D} {k : D → Prop} : gIx (.list (a0 :: a1 :: a2 :: d :: ds)) (.int 3) k = k d := g_ixLs (show atI _ (((3 : Nat)) : Int) = some d from atI_nat)
@[simp ↓] theorem g_ixT3 {a0 a1 a2 : D} {d : D} {ds : List D} {k : D → Prop} : gIx (.tuple (a0 :: a1 :: a2 :: d :: ds)) (.int 3) k = k d := g_ixTs (show atI _ (((3 : Nat)) : Int) = some d from atI_nat)
@[simp ↓] theorem g_ixL4 {a0 a1 a2 a3 : D} {d : D} {ds : List D} {k : D → Prop} : gIx (.list (a0 :: a1 :: a2 :: a3 :: d :: ds)) (.int 4) k = k d := g_ixLs (show atI _ (((4 : Nat)) : Int) = some d from atI_nat)
@[simp ↓] theorem g_ixT4 {a0 a1 a2 a3 : D} {d : D} {ds : List D} {k : D → Prop} : gIx (.tuple (a0 :: a1 :: a2 :: a3 :: d :: ds)) (.int 4) k = k d := g_ixTs (show atI _ (((4 : Nat)) : Int) = some d from atI_nat)
@[simp ↓] theorem g_ixL5 {a0 a1 a2 a3 a4 : D} {d : D} {ds : List D} {k : D → Prop} : gIx (.list (a0 :: a1 :: a2 :: a3 :: a4 :: d :: ds)) (.int 5) k = k d := g_ixLs (show atI _ (((5 : Nat)) : Int) = some d from atI_nat)
@[simp ↓] theorem g_ixT5 {a0 a1 a2 a3 a4 : D} {d : D} {ds : List D} {k : D → Prop} : gIx (.tuple (a0 :: a1 :: a2 :: a3 :: a4 :: d :: ds)) (.int 5) k = k d := g_ixTs (show atI _ (((5 : Nat)) : Int) = some d from atI_nat)
@[simp ↓] theorem g_ixL6 {a0 a1 a2 a3 a4 a5 : D} {d : D} {ds : List D} {k : D → Prop} : gIx (.list (a0 :: a1 :: a2 :: a3 :: a4 :: a5 :: d :: ds)) (.int 6) k = k d := g_ixLs (show atI _ (((6 : Nat)) : Int) = some d from atI_nat)
@[simp ↓] theorem g_ixT6 {a0 a1 a2 a3 a4 a5 : D} {d : D} {ds : List D} {k : D → Prop} : gIx (.tuple (a0 :: a1 :: a2 :: a3 :: a4 :: a5 :: d :: ds)) (.int 6) k = k d := g_ixTs (show atI _ (((6 : Nat)) : Int) = some d from atI_nat)
@[simp ↓] theorem g_ixL7 {a0 a1 a2 a3 a4 a5 a6 : D} {d : D} {ds : List D} {k : D → Prop} : gIx (.list (a0 :: a1 :: a2 :: a3 :: a4 :: a5 :: a6 :: d :: ds)) (.int 7) k = k d := g_ixLs (show atI _ (((7 : Nat)) : Int) = some d from atI_nat)
@[simp ↓] theorem g_ixT7 {a0 a1 a2 a3 a4 a5 a6 : D} {d : D} {ds : List D} {k : D → Prop} : gIx (.tuple (a0 :: a1 :: a2 :: a3 :: a4 :: a5 :: a6 :: d :: ds)) (.int 7) k = k d := g_ixTs (show atI _ (((7 : Nat)) : Int) = some d from atI_nat)
@[simp ↓] theorem g_ixL8 {a0 a1 a2 a3 a4 a5 a6 a7 : D} {d : D} {ds : List D} {k : D → Prop} : gIx (.list (a0 :: a1 :: a2 :: a3 :: a4 :: a5 :: a6 :: a7 :: d :: ds)) (.int 8) k = k d := g_ixLs (show atI _ (((8 : Nat)) : Int) = some d from atI_nat)
@[simp ↓] theorem g_ixT8 {a0 a1 a2 a3 a4 a5 a6 a7 : D} {d : D} {ds : List D} {k : D → Prop} : gIx (.tuple (a0 :: a1 :: a2 :: a3 :: a4 :: a5 :: a6 :: a7 :: d :: ds)) (.int 8) k = k d := g_ixTs (show atI _ (((8 : Nat)) : Int) = some d from atI_nat)
end Dl

namespace Dl
open PySem
open PySem.Spec
open PyProof.Rows
open L2
def w_law_pool : WS := (wSeq (wSet 2 (wIf (wCmpT gLt (wVar 1) (wScrLen (wVar 0))) (wScrAt (wVar 0) (wVar 1)) (wC (.int 0))))
  (wRet (wLoc (wLst (wCons (wB gMax (wCons (wC (.int 0)) (wCons (wOp2 gSub (wB gAbs (wCons (wVar 2) wNil)) (wOp2 gPow (wC (.int 10)) (wC (.int 18)))) wNil))) (wCons (wOp2 gAdd (wOp2 gAdd (wOp2 gMul (wOp2 gMod (wVar 2) (wOp2 gAdd (wOp2 gPow (wC (.int 10)) (wC (.int 40))) (wC (.int 121)))) (wC (.int 89))) (wOp2 gMul (wC (.int 31)) (wVar 1))) (wC (.int 7))) (wCons (wC (.int 0)) wNil)))))))
def F_law_pool : FS := runF 3 w_law_pool
def w_law_draw : WS := (wSeq (wIfS (wCmpT gGt (wOp2 gIx (wVar 0) (wC (.int 0))) (wC (.int 0))) (wSeq (wSet 2 (wOp2 gMod (wOp2 gIx (wVar 0) (wC (.int 0))) (wVar 1)))
  (wSeq (wSetI (wVar 0) (wC (.int 0)) (wOp2 gDiv (wOp2 gIx (wVar 0) (wC (.int 0))) (wVar 1)))
  (wRet (wVar 2)))) wNext)
  (wSeq (wSetI (wVar 0) (wC (.int 2)) (wOp2 gAdd (wOp2 gIx (wVar 0) (wC (.int 2))) (wC (.int 1))))
  (wSeq (wSet 3 (wOp2 gMod (wOp2 gPow (wOp2 gAdd (wOp2 gIx (wVar 0) (wC (.int 1))) (wOp2 gMul (wC (.int 472882027)) (wOp2 gIx (wVar 0) (wC (.int 2))))) (wC (.int 3))) (wOp2 gAdd (wOp2 gPow (wC (.int 10)) (wC (.int 41))) (wC (.int 37)))))
  (wSeq (wSet 3 (wOp2 gMod (wOp2 gPow (wOp2 gAdd (wVar 3) (wOp2 gMul (wC (.int 86028121)) (wOp2 gIx (wVar 0) (wC (.int 2))))) (wC (.int 3))) (wOp2 gAdd (wOp2 gPow (wC (.int 10)) (wC (.int 39))) (wC (.int 3)))))
  (wRet (wOp2 gMod (wOp2 gDiv (wVar 3) (wC (.int 1000003))) (wVar 1)))))))
def F_law_draw : FS := runF 4 w_law_draw
def w_law_strokes : WS := (wSeq (wSet 2 (wOp2 gIx (wDat (wLst (wCons (wC (.str (S [97, 98, 45, 35]))) (wCons (wC (.str (S [60, 62, 45, 35]))) (wCons (wC (.str (S [120, 45, 35, 60, 62]))) (wCons (wC (.str (S [60, 62, 97]))) (wCons (wC (.str (S [45]))) (wCons (wC (.str (S [35]))) (wCons (wC (.str (S [97, 98, 99, 100, 101, 102, 103, 104, 105, 106, 107, 108, 109, 110, 111, 112, 113, 114, 115, 116, 117, 118, 119, 120, 121, 122, 45, 35, 60, 62]))) wNil))))))))) (wCall 2 F_law_draw (wCons (wVar 0) (wCons (wC (.int 7)) wNil)))))
  (wSeq (wSet 3 (wOp2 gIx (wDat (wLst (wCons (wCall 2 F_law_draw (wCons (wVar 0) (wCons (wC (.int 5)) wNil))) (wCons (wCall 2 F_law_draw (wCons (wVar 0) (wCons (wOp2 gAdd (wVar 1) (wC (.int 1))) wNil))) wNil)))) (wCall 2 F_law_draw (wCons (wVar 0) (wCons (wC (.int 2)) wNil)))))
  (wRet (wM "str" mJoin (wC (.str (S []))) (wCons (wDat (wLc (.nm 4) (wRng rng1 (wCons (wVar 3) wNil)) wYes (wOp2 gIx (wVar 2) (wCall 2 F_law_draw (wCons (wVar 0) (wCons (wB gLen (wCons (wVar 2) wNil)) wNil)))) [4])) wNil)))))
def F_law_strokes : FS := runF 5 w_law_strokes
def w_is_key : WS := (wRet (wOrV (wCmp gIn (wVar 0) (wC (.str cLow))) (wCmp gIn (wVar 0) (wTup (wCons (wC (.str (S [45]))) (wCons (wC (.str (S [35]))) (wCons (wC (.str (S [60]))) (wCons (wC (.str (S [62]))) wNil))))))))
def F_is_key : FS := runF 1 w_is_key
def w_is_keys : WS := (wRet (wAndV (wIsi "str" (wVar 0)) (wB gAll (wCons (wDat (wLc (.nm 1) (wIt (wVar 0)) wYes (wCall 1 F_is_key (wCons (wVar 1) wNil)) [1])) wNil))))
def F_is_keys : FS := runF 2 w_is_keys
def w_law_bent : WS := (wSeq (wSet 2 (wCall 2 F_law_draw (wCons (wVar 0) (wCons (wOp2 gAdd (wB gLen (wCons (wVar 1) wNil)) (wC (.int 1))) wNil))))
  (wSeq (wSet 3 (wDat (wLst (wCons (wC (.str (S [65]))) (wCons (wC (.str (S [90]))) (wCons (wC (.str (S [32]))) (wCons (wC (.str (S [124]))) (wCons (wC (.str (S [95]))) (wCons (wC (.str (S [43]))) (wCons (wC (.str (S [61]))) (wCons (wC (.str (S [48]))) (wCons (wC (.str (S [57]))) (wCons (wC (.str (S [46]))) (wCons (wC (.str (S [10]))) (wCons (wC (.str (S [9]))) (wCons (wC (.str (S [96]))) (wCons (wC (.str (S [123]))) (wCons (wC (.str (S [64]))) (wCons (wC (.str (S [91]))) (wCons (wC (.str (S [42]))) (wCons (wC (.str (S [47]))) (wCons (wC (.str (S [33]))) (wCons (wC (.str (S [120]))) wNil)))))))))))))))))))))))
  (wSeq (wSet 4 (wOp2 gIx (wVar 3) (wCall 2 F_law_draw (wCons (wVar 0) (wCons (wB gLen (wCons (wVar 3) wNil)) wNil)))))
  (wSeq (wSet 5 (wDat (wLst (wCons (wOp2 gAdd (wOp2 gAdd (wSl gSl (wVar 1) wNo (wPart (wVar 2))) (wVar 4)) (wSl gSl (wVar 1) (wPart (wVar 2)) wNo)) (wCons (wOp2 gAdd (wOp2 gAdd (wSl gSl (wVar 1) wNo (wPart (wVar 2))) (wVar 4)) (wSl gSl (wVar 1) (wPart (wOp2 gAdd (wVar 2) (wC (.int 1)))) wNo)) (wCons (wOp2 gAdd (wSl gSl (wVar 1) wNo (wPart (wVar 2))) (wSl gSl (wVar 1) (wPart (wOp2 gAdd (wVar 2) (wC (.int 1)))) wNo)) wNil))))))
  (wRet (wOp2 gAdd (wVar 5) (wDat (wLst (wCons (wDat (wBL gListA (wCons (wVar 1) wNil))) (wCons (wTup (wCons (wVar 1) wNil)) (wCons (wDic1 (wVar 1) (wC (.int 1))) (wCons (wB gLen (wCons (wVar 1) wNil)) (wCons (wVar 4) (wCons (wM0 "str" mUpper (wVar 1)) (wCons (wOp2 gAdd (wVar 4) (wVar 4)) wNil)))))))))))))))
def F_law_bent : FS := runF 6 w_law_bent
def w_law_is_list : WS := (wSeq (wIfS (wNotT (wTru (wIsi "str" (wVar 0)))) (wRet (wC (.bool false))) wNext)
  (wRet (wCmp gEq (wDat (wLc (.nm 1) (wIt (wVar 0)) (wAndT (wNotT (wChainT gLe gLe (wC (.str (S [97]))) (wVar 1) (wC (.str (S [122]))))) (wCmpT gNotIn (wVar 1) (wTup (wCons (wC (.str (S [45]))) (wCons (wC (.str (S [35]))) (wCons (wC (.str (S [60]))) (wCons (wC (.str (S [62]))) wNil))))))) (wVar 1) [1])) (wDat (wLst wNil)))))
def F_law_is_list : FS := runF 2 w_law_is_list
def w_law_k01 : WS := (wSeq (wFor (.nm 1) (wRng rng1 (wCons (wB gMax (wCons (wC (.int 1)) (wCons (wB gMin (wCons (wC (.int 8)) (wCons (wScrLen (wVar 0)) wNil))) wNil))) wNil)) (wSeq (wSet 2 (wCall 2 F_law_pool (wCons (wVar 0) (wCons (wVar 1) wNil))))
  (wFor (.nm 3) (wRng rng1 (wCons (wC (.int 3)) wNil)) (wSeq (wSet 4 (wCall 2 F_law_strokes (wCons (wVar 2) (wCons (wC (.int 60)) wNil))))
  (wFor (.nm 5) (wIt (wDat (wOpL gAddL (wDat (wLst (wCons (wVar 4) wNil))) (wCall 2 F_law_bent (wCons (wVar 2) (wCons (wVar 4) wNil)))))) (wSeq (wSet 6 (wCall 1 F_law_is_list (wCons (wVar 5) wNil)))
  (wIfS (wCmpT gNe (wB gRepr (wCons (wDat (wLst (wCons (wCall 1 F_is_keys (wCons (wVar 5) wNil)) (wCons (wCallK0 1 1 F_is_keys [0] (wCons (wVar 5) wNil)) wNil)))) wNil)) (wB gRepr (wCons (wDat (wLst (wCons (wVar 6) (wCons (wVar 6) wNil)))) wNil))) (wRet (wC (.bool false))) wNext)))))))
  (wSeq (wSet 7 (wC (.str (S [97, 98, 99, 100, 101, 102, 103, 104, 105, 106, 107, 108, 109, 110, 111, 112, 113, 114, 115, 116, 117, 118, 119, 120, 121, 122, 45, 35, 60, 62]))))
  (wSeq (wIfS (wCmpT gNe (wDat (wLc (.nm 9) (wIt (wVar 7)) (wCmpT gIsNot (wCall 1 F_is_keys (wCons (wVar 9) wNil)) (wC (.bool true))) (wVar 9) [9])) (wDat (wLst wNil))) (wRet (wC (.bool false))) wNext)
  (wSeq (wSet 8 (wDat (wLst (wCons (wC .none) (wCons (wC (.bool true)) (wCons (wC (.bool false)) (wCons (wC (.int 0)) (wCons (wC (.int 1)) (wCons (wDat (wLst wNil)) (wCons (wTup wNil) (wCons (wC (.dict [])) (wCons (wDat (wLst (wCons (wC (.str (S [97]))) wNil))) (wCons (wTup (wCons (wC (.str (S [60]))) (wCons (wC (.str (S [62]))) wNil))) (wCons (wDat (wLst (wCons (wC (.str (S []))) wNil))) (wCons (wOp2 gPow (wC (.int 10)) (wC (.int 39))) (wCons (wDic1 (wC (.str (S [97]))) (wC (.str (S [98])))) (wCons (wC (.str (S [97, 98, 32, 99]))) (wCons (wC (.str (S [60, 124, 62]))) wNil))))))))))))))))))
  (wRet (wAndV (wCmp gEq (wDat (wLc (.nm 5) (wIt (wVar 8)) (wCmpT gIsNot (wCall 1 F_is_keys (wCons (wVar 5) wNil)) (wC (.bool false))) (wVar 5) [5])) (wDat (wLst wNil))) (wCmp gIs (wCall 1 F_is_keys (wCons (wC (.str (S []))) wNil)) (wC (.bool true)))))))))
def F_law_k01 : FS := runF 10 w_law_k01
def w_is_text : WS := (wRet (wAndV (wIsi "str" (wVar 0)) (wB gAll (wCons (wDat (wLc (.nm 1) (wIt (wVar 0)) wYes (wOrV (wCmp gIn (wVar 1) (wC (.str cLow))) (wCmp gIn (wVar 1) (wC (.str cUp)))) [1])) wNil))))
def F_is_text : FS := runF 2 w_is_text
def w_check_text : WS := (wIfS (wNotT (wTru (wCall 1 F_is_text (wCons (wVar 0) wNil)))) (wRaise "InvalidText") wNext)
def F_check_text : FS := runF 1 w_check_text
def w_is_integer : WS := (wSeq (wIfS (wOrT (wNotT (wTru (wIsi "int" (wVar 0)))) (wTru (wIsi "bool" (wVar 0)))) (wRet (wC (.bool false))) wNext)
  (wRet (wAndV (wCmp gGe (wVar 0) (wVar 1)) (wOrV (wCmp gIs (wVar 2) (wC .none)) (wCmp gLe (wVar 0) (wVar 2))))))
def F_is_integer : FS := runF 3 w_is_integer
def w_is_cursors : WS := (wSeq (wIfS (wOrT (wNotT (wTru (wIsi "tuple" (wVar 1)))) (wCmpT gEq (wVar 1) (wTup wNil))) (wRet (wC (.bool false))) wNext)
  (wSeq (wIfS (wNotT (wTru (wB gAll (wCons (wDat (wLc (.nm 2) (wIt (wVar 1)) wYes (wCall 3 F_is_integer (wCons (wVar 2) (wCons (wC (.int 0)) (wCons (wB gLen (wCons (wVar 0) wNil)) wNil)))) [2])) wNil)))) (wRet (wC (.bool false))) wNext)
  (wRet (wB gAll (wCons (wDat (wLc (.tp [3, 4]) (wZip (wCons (wVar 1) (wCons (wSl gSl (wVar 1) (wPart (wC (.int 1))) wNo) wNil))) wYes (wCmp gLt (wVar 3) (wVar 4)) [3, 4])) wNil)))))
def F_is_cursors : FS := runF 5 w_is_cursors
def w_check_cursors : WS := (wIfS (wNotT (wTru (wCall 2 F_is_cursors (wCons (wVar 0) (wCons (wVar 1) wNil))))) (wRaise "InvalidCursors") wNext)
def F_check_cursors : FS := runF 2 w_check_cursors
def w_check_keys : WS := (wIfS (wNotT (wTru (wCall 1 F_is_keys (wCons (wVar 0) wNil)))) (wRaise "InvalidKeys") wNext)
def F_check_keys : FS := runF 1 w_check_keys
def w_stretches_of : WS := (wSeq (wSet 2 (wOp2 gAdd (wOp2 gAdd (wTup (wCons (wC (.int 0)) wNil)) (wVar 1)) (wTup (wCons (wB gLen (wCons (wVar 0) wNil)) wNil))))
  (wRet (wDat (wLc (.tp [3, 4]) (wZip (wCons (wVar 2) (wCons (wSl gSl (wVar 2) (wPart (wC (.int 1))) wNo) wNil))) wYes (wSl gSl (wVar 0) (wPart (wVar 3)) (wPart (wVar 4))) [3, 4]))))
def F_stretches_of : FS := runF 5 w_stretches_of
def w_places_without_copies : WS := (wSeq (wSet 1 (wLoc (wLst wNil)))
  (wSeq (wFor (.nm 2) (wIt (wVar 0)) (wIfS (wOrT (wCmpT gEq (wVar 1) (wDat (wLst wNil))) (wCmpT gNe (wOp2 gIx (wVar 1) (wOp1 gNeg (wC (.int 1)))) (wVar 2))) (wDrop (wU uAppend (wVar 1) (wCons (wVar 2) wNil))) wNext))
  (wRet (wB gTuple (wCons (wVar 1) wNil)))))
def F_places_without_copies : FS := runF 3 w_places_without_copies
def w_state_with : WS := (wSeq (wSet 1 (wLoc (wLst wNil)))
  (wSeq (wSet 2 (wC (.int 0)))
  (wSeq (wFor (.nm 3) (wIt (wSl gSl (wVar 0) wNo (wPart (wOp1 gNeg (wC (.int 1)))))) (wSeq (wAug gIAdd 2 (wB gLen (wCons (wVar 3) wNil)))
  (wDrop (wU uAppend (wVar 1) (wCons (wVar 2) wNil)))))
  (wRet (wTup (wCons (wM "str" mJoin (wC (.str (S []))) (wCons (wVar 0) wNil)) (wCons (wCall 1 F_places_without_copies (wCons (wVar 1) wNil)) wNil)))))))
def F_state_with : FS := runF 4 w_state_with
def w_step_key : WS := (wSeq (wIfS (wCmpT gEq (wVar 2) (wC (.str (S [60])))) (wRet (wTup (wCons (wVar 0) (wCons (wCall 1 F_places_without_copies (wCons (wDat (wLc (.nm 4) (wIt (wVar 1)) wYes (wB gMax (wCons (wC (.int 0)) (wCons (wOp2 gSub (wVar 4) (wC (.int 1))) wNil))) [4])) wNil)) wNil)))) wNext)
  (wSeq (wIfS (wCmpT gEq (wVar 2) (wC (.str (S [62])))) (wRet (wTup (wCons (wVar 0) (wCons (wCall 1 F_places_without_copies (wCons (wDat (wLc (.nm 4) (wIt (wVar 1)) wYes (wB gMin (wCons (wB gLen (wCons (wVar 0) wNil)) (wCons (wOp2 gAdd (wVar 4) (wC (.int 1))) wNil))) [4])) wNil)) wNil)))) wNext)
  (wSeq (wSet 3 (wCall 2 F_stretches_of (wCons (wVar 0) (wCons (wVar 1) wNil))))
  (wSeq (wIfS (wCmpT gEq (wVar 2) (wC (.str (S [35])))) (wRet (wCall 1 F_state_with (wCons (wOp2 gAdd (wSl gSl (wVar 3) wNo (wPart (wC (.int 1)))) (wDat (wLc (.nm 5) (wIt (wSl gSl (wVar 3) (wPart (wC (.int 1))) wNo)) wYes (wSl gSl (wVar 5) (wPart (wC (.int 1))) wNo) [5]))) wNil))) wNext)
  (wSeq (wIfS (wCmpT gEq (wVar 2) (wC (.str (S [45])))) (wRet (wCall 1 F_state_with (wCons (wDat (wOpL gAddL (wDat (wLc (.nm 5) (wIt (wSl gSl (wVar 3) wNo (wPart (wOp1 gNeg (wC (.int 1)))))) wYes (wSl gSl (wVar 5) wNo (wPart (wOp1 gNeg (wC (.int 1))))) [5])) (wSl gSl (wVar 3) (wPart (wOp1 gNeg (wC (.int 1)))) wNo))) wNil))) wNext)
  (wRet (wCall 1 F_state_with (wCons (wDat (wOpL gAddL (wDat (wLc (.nm 5) (wIt (wSl gSl (wVar 3) wNo (wPart (wOp1 gNeg (wC (.int 1)))))) wYes (wOp2 gAdd (wVar 5) (wVar 2)) [5])) (wSl gSl (wVar 3) (wPart (wOp1 gNeg (wC (.int 1)))) wNo))) wNil))))))))
def F_step_key : FS := runF 6 w_step_key
def w_pressed : WS := (wSeq (wDrop (wCall 1 F_check_text (wCons (wVar 0) wNil)))
  (wSeq (wDrop (wCall 2 F_check_cursors (wCons (wVar 0) (wCons (wVar 1) wNil))))
  (wSeq (wDrop (wCall 1 F_check_keys (wCons (wVar 2) wNil)))
  (wSeq (wSet 3 (wTup (wCons (wVar 0) (wCons (wVar 1) wNil))))
  (wSeq (wFor (.nm 4) (wIt (wVar 2)) (wSet 3 (wCall 3 F_step_key (wCons (wOp2 gIx (wVar 3) (wC (.int 0))) (wCons (wOp2 gIx (wVar 3) (wC (.int 1))) (wCons (wVar 4) wNil))))))
  (wRet (wVar 3)))))))
def F_pressed : FS := runF 5 w_pressed
def w_law_line : WS := (wSeq (wSet 2 (wB gMin (wCons (wVar 1) (wCons (wOp2 gIx (wDat (wLst (wCons (wCall 2 F_law_draw (wCons (wVar 0) (wCons (wC (.int 5)) wNil))) (wCons (wCall 2 F_law_draw (wCons (wVar 0) (wCons (wOp2 gAdd (wVar 1) (wC (.int 1))) wNil))) (wCons (wOp2 gAdd (wC (.int 1)) (wCall 2 F_law_draw (wCons (wVar 0) (wCons (wC (.int 12)) wNil)))) wNil))))) (wCall 2 F_law_draw (wCons (wVar 0) (wCons (wC (.int 3)) wNil)))) wNil))))
  (wSeq (wSet 3 (wOp2 gIx (wDat (wLst (wCons (wC (.str (S [97, 98]))) (wCons (wC (.str (S [81, 82, 83]))) (wCons (wC (.str (S [97, 98, 99, 100, 101, 102, 103, 104, 105, 106, 107, 108, 109, 110, 111, 112, 113, 114, 115, 116, 117, 118, 119, 120, 121, 122, 65, 66, 67, 68, 69, 70, 71, 72, 73, 74, 75, 76, 77, 78, 79, 80, 81, 82, 83, 84, 85, 86, 87, 88, 89, 90]))) wNil))))) (wCall 2 F_law_draw (wCons (wVar 0) (wCons (wC (.int 3)) wNil)))))
  (wRet (wM "str" mJoin (wC (.str (S []))) (wCons (wDat (wLc (.nm 4) (wRng rng1 (wCons (wVar 2) wNil)) wYes (wOp2 gIx (wVar 3) (wCall 2 F_law_draw (wCons (wVar 0) (wCons (wB gLen (wCons (wVar 3) wNil)) wNil)))) [4])) wNil)))))
def F_law_line : FS := runF 5 w_law_line
def w_law_spots : WS := (wSeq (wSet 2 (wLoc (wLstRg (wRg1 (wOp2 gAdd (wVar 1) (wC (.int 1)))))))
  (wSeq (wIfS (wCmpT gEq (wCall 2 F_law_draw (wCons (wVar 0) (wCons (wC (.int 3)) wNil))) (wC (.int 0))) (wSet 2 (wLoc (wSlL gSlL (wSl gSl (wVar 2) (wPart (wCall 2 F_law_draw (wCons (wVar 0) (wCons (wOp2 gAdd (wVar 1) (wC (.int 1))) wNil)))) wNo) wNo (wPart (wOp2 gAdd (wC (.int 1)) (wCall 2 F_law_draw (wCons (wVar 0) (wCons (wC (.int 6)) wNil)))))))) wNext)
  (wSeq (wSet 3 (wOp2 gAdd (wC (.int 1)) (wCall 2 F_law_draw (wCons (wVar 0) (wCons (wB gMin (wCons (wC (.int 20)) (wCons (wB gLen (wCons (wVar 2) wNil)) wNil))) wNil)))))
  (wRet (wB gTuple (wCons (wDat (wBL gSortL (wCons (wDat (wLc (.nm 4) (wRng rng1 (wCons (wVar 3) wNil)) wYes (wU uPop (wVar 2) (wCons (wCall 2 F_law_draw (wCons (wVar 0) (wCons (wB gLen (wCons (wVar 2) wNil)) wNil))) wNil)) [4])) wNil))) wNil))))))
def F_law_spots : FS := runF 5 w_law_spots
def w_law_shown : WS := (wSeq (wPar [1, 2] (wCons (wC (.str (S []))) (wCons (wLoc (wLst wNil)) wNil)))
  (wSeq (wFor (.nm 3) (wIt (wVar 0)) (wIfS (wCmpT gEq (wVar 3) (wC (.str (S [124])))) (wDrop (wU uAppend (wVar 2) (wCons (wB gLen (wCons (wVar 1) wNil)) wNil))) (wSet 1 (wOp2 gAdd (wVar 1) (wVar 3)))))
  (wRet (wTup (wCons (wVar 1) (wCons (wB gTuple (wCons (wVar 2) wNil)) wNil))))))
def F_law_shown : FS := runF 4 w_law_shown
def w_law_left : WS := (wSeq (wSet 2 (wLoc (wLst wNil)))
  (wSeq (wFor (.nm 3) (wIt (wVar 0)) (wSeq (wSet 4 (wLoc (wLst wNil)))
  (wSeq (wIfS (wAndT (wCmpT gEq (wVar 3) (wC (.str (S [124])))) (wAndT (wCmpT gNe (wVar 2) (wDat (wLst wNil))) (wCmpT gNe (wOp2 gIx (wVar 2) (wOp1 gNeg (wC (.int 1)))) (wC (.str (S [124])))))) (wDrop (wU uAppend (wVar 4) (wCons (wU0 uPop (wVar 2)) wNil))) wNext)
  (wSeq (wIfS (wOrT (wCmpT gNe (wVar 3) (wC (.str (S [124])))) (wOrT (wCmpT gEq (wVar 2) (wDat (wLst wNil))) (wCmpT gNe (wOp2 gIx (wVar 2) (wOp1 gNeg (wC (.int 1)))) (wC (.str (S [124])))))) (wDrop (wU uAppend (wVar 2) (wCons (wVar 3) wNil))) wNext)
  (wIfS (wTru (wVar 1)) (wDrop (wU uExtend (wVar 2) (wCons (wVar 4) wNil))) wNext)))))
  (wRet (wFrz (wVar 2)))))
def F_law_left : FS := runF 5 w_law_left
def w_law_one : WS := (wSeq (wIfS (wCmpT gIn (wVar 1) (wC (.str (S [45, 60])))) (wRet (wCall 2 F_law_left (wCons (wVar 0) (wCons (wCmp gEq (wVar 1) (wC (.str (S [60])))) wNil)))) wNext)
  (wSeq (wIfS (wCmpT gIn (wVar 1) (wC (.str (S [35, 62])))) (wRet (wDat (wRevL (wCall 2 F_law_left (wCons (wDat (wRevL (wVar 0))) (wCons (wCmp gEq (wVar 1) (wC (.str (S [62])))) wNil)))))) wNext)
  (wSeq (wSet 2 (wLoc (wLst wNil)))
  (wSeq (wFor (.nm 3) (wIt (wVar 0)) (wSeq (wIfS (wCmpT gEq (wVar 3) (wC (.str (S [124])))) (wDrop (wU uAppend (wVar 2) (wCons (wVar 1) wNil))) wNext)
  (wDrop (wU uAppend (wVar 2) (wCons (wVar 3) wNil)))))
  (wRet (wFrz (wVar 2)))))))
def F_law_one : FS := runF 4 w_law_one
def w_law_after : WS := (wSeq (wFor (.nm 2) (wIt (wVar 1)) (wSet 0 (wCall 2 F_law_one (wCons (wVar 0) (wCons (wVar 2) wNil)))))
  (wRet (wVar 0)))
def F_law_after : FS := runF 3 w_law_after
def w_law_row : WS := (wSeq (wSet 2 (wLoc (wLst wNil)))
  (wSeq (wFor (.nm 3) (wRng rng1 (wCons (wOp2 gAdd (wB gLen (wCons (wVar 0) wNil)) (wC (.int 1))) wNil)) (wSeq (wIfS (wCmpT gIn (wVar 3) (wVar 1)) (wDrop (wU uAppend (wVar 2) (wCons (wC (.str (S [124]))) wNil))) wNext)
  (wDrop (wU uExtend (wVar 2) (wCons (wDat (wBL gListA (wCons (wSl gSl (wVar 0) (wPart (wVar 3)) (wPart (wOp2 gAdd (wVar 3) (wC (.int 1))))) wNil))) wNil)))))
  (wRet (wFrz (wVar 2)))))
def F_law_row : FS := runF 4 w_law_row
def w_law_right_k02 : WS := (wSeq (wSet 2 (wCall 2 F_law_line (wCons (wVar 0) (wCons (wVar 1) wNil))))
  (wSeq (wPar [3, 4] (wCons (wCall 2 F_law_spots (wCons (wVar 0) (wCons (wB gLen (wCons (wVar 2) wNil)) wNil))) (wCons (wCall 2 F_law_strokes (wCons (wVar 0) (wCons (wC (.int 60)) wNil))) wNil)))
  (wSeq (wSet 5 (wB gRepr (wCons (wCall 1 F_law_shown (wCons (wCall 2 F_law_after (wCons (wCall 2 F_law_row (wCons (wVar 2) (wCons (wVar 3) wNil))) (wCons (wVar 4) wNil))) wNil)) wNil)))
  (wSeq (wIfS (wOrT (wCmpT gNe (wB gRepr (wCons (wCall 3 F_pressed (wCons (wVar 2) (wCons (wVar 3) (wCons (wVar 4) wNil)))) wNil)) (wVar 5)) (wCmpT gNe (wB gRepr (wCons (wCallK0 3 3 F_pressed [2, 1, 0] (wCons (wVar 4) (wCons (wVar 3) (wCons (wVar 2) wNil)))) wNil)) (wVar 5))) (wRet (wC (.bool false))) wNext)
  (wSeq (wSet 6 (wCall 2 F_law_draw (wCons (wVar 0) (wCons (wOp2 gAdd (wB gLen (wCons (wVar 4) wNil)) (wC (.int 1))) wNil))))
  (wSeq (wSet 7 (wCall 3 F_pressed (wCons (wVar 2) (wCons (wVar 3) (wCons (wSl gSl (wVar 4) wNo (wPart (wVar 6))) wNil)))))
  (wRet (wCmp gEq (wB gRepr (wCons (wCall 3 F_pressed (wCons (wOp2 gIx (wVar 7) (wC (.int 0))) (wCons (wOp2 gIx (wVar 7) (wC (.int 1))) (wCons (wSl gSl (wVar 4) (wPart (wVar 6)) wNo) wNil)))) wNil)) (wVar 5)))))))))
def F_law_right_k02 : FS := runF 8 w_law_right_k02
def w_law_k02 : WS := (wSeq (wFor (.nm 1) (wRng rng1 (wCons (wB gMax (wCons (wC (.int 1)) (wCons (wB gMin (wCons (wC (.int 6)) (wCons (wScrLen (wVar 0)) wNil))) wNil))) wNil)) (wSeq (wSet 2 (wCall 2 F_law_pool (wCons (wVar 0) (wCons (wVar 1) wNil))))
  (wFor (.nm 3) (wIt (wDat (wLst (wCons (wC (.int 4)) (wCons (wC (.int 30)) (wCons (wC (.int 300)) wNil)))))) (wIfS (wNotT (wTru (wCall 2 F_law_right_k02 (wCons (wVar 2) (wCons (wVar 3) wNil))))) (wRet (wC (.bool false))) wNext))))
  (wRet (wAndV (wCmp gEq (wCall 3 F_pressed (wCons (wC (.str (S []))) (wCons (wTup (wCons (wC (.int 0)) wNil)) (wCons (wC (.str (S [45, 35, 60, 62, 97]))) wNil)))) (wTup (wCons (wC (.str (S [97]))) (wCons (wTup (wCons (wC (.int 1)) wNil)) wNil)))) (wCmp gEq (wCall 3 F_pressed (wCons (wC (.str (S [97, 98, 99]))) (wCons (wTup (wCons (wC (.int 0)) (wCons (wC (.int 1)) (wCons (wC (.int 2)) (wCons (wC (.int 3)) wNil))))) (wCons (wC (.str (S [35]))) wNil)))) (wTup (wCons (wC (.str (S []))) (wCons (wTup (wCons (wC (.int 0)) wNil)) wNil)))))))
def F_law_k02 : FS := runF 4 w_law_k02
def w_layout_of : WS := (wSeq (wDrop (wCall 1 F_check_text (wCons (wVar 0) wNil)))
  (wSeq (wDrop (wCall 2 F_check_cursors (wCons (wVar 0) (wCons (wVar 1) wNil))))
  (wSeq (wSet 2 (wB gTuple (wCons (wDat (wLc (.tp [3, 4]) (wZip (wCons (wVar 1) (wCons (wSl gSl (wVar 1) (wPart (wC (.int 1))) wNo) wNil))) wYes (wOp2 gSub (wVar 4) (wVar 3)) [3, 4])) wNil)))
  (wRet (wTup (wCons (wOp2 gIx (wVar 1) (wC (.int 0))) (wCons (wVar 2) (wCons (wOp2 gSub (wB gLen (wCons (wVar 0) wNil)) (wOp2 gIx (wVar 1) (wOp1 gNeg (wC (.int 1))))) wNil))))))))
def F_layout_of : FS := runF 5 w_layout_of
def w_law_states : WS := (wSeq (wSet 3 (wCall 2 F_law_row (wCons (wVar 0) (wCons (wVar 1) wNil))))
  (wSeq (wSet 4 (wLoc (wLst (wCons (wCall 1 F_law_shown (wCons (wVar 3) wNil)) wNil))))
  (wSeq (wFor (.nm 5) (wIt (wVar 2)) (wSeq (wSet 3 (wCall 2 F_law_one (wCons (wVar 3) (wCons (wVar 5) wNil))))
  (wDrop (wU uAppend (wVar 4) (wCons (wCall 1 F_law_shown (wCons (wVar 3) wNil)) wNil)))))
  (wRet (wFrz (wVar 4))))))
def F_law_states : FS := runF 6 w_law_states
def w_law_layout : WS := (wSeq (wPar [2, 3] (wCons (wLoc (wLst wNil)) (wCons (wC (.int 0)) wNil)))
  (wSeq (wFor (.nm 4) (wIt (wVar 1)) (wSeq (wDrop (wU uAppend (wVar 2) (wCons (wB gLen (wCons (wSl gSl (wVar 0) (wPart (wVar 3)) (wPart (wVar 4))) wNil)) wNil)))
  (wSet 3 (wVar 4))))
  (wRet (wTup (wCons (wOp2 gIx (wVar 2) (wC (.int 0))) (wCons (wB gTuple (wCons (wSl gSl (wVar 2) (wPart (wC (.int 1))) wNo) wNil)) (wCons (wB gLen (wCons (wSl gSl (wVar 0) (wPart (wVar 3)) wNo) wNil)) wNil)))))))
def F_law_layout : FS := runF 5 w_law_layout
def w_law_no_spots : WS := (wSeq (wSet 3 (wCall 2 F_law_draw (wCons (wVar 0) (wCons (wB gLen (wCons (wVar 1) wNil)) wNil))))
  (wSeq (wSet 4 (wOp2 gIx (wDat (wLst (wCons (wOp1 gNeg (wC (.int 1))) (wCons (wOp2 gAdd (wVar 2) (wC (.int 1))) (wCons (wC .none) (wCons (wC (.bool true)) (wCons (wC (.bool false)) (wCons (wC (.str (S [48]))) (wCons (wTup (wCons (wC (.int 0)) wNil)) (wCons (wDat (wLst wNil)) (wCons (wOp2 gPow (wC (.int 10)) (wC (.int 39))) (wCons (wOp2 gSub (wC (.int 0)) (wOp2 gPow (wC (.int 10)) (wC (.int 39)))) wNil)))))))))))) (wCall 2 F_law_draw (wCons (wVar 0) (wCons (wC (.int 10)) wNil)))))
  (wSeq (wSet 5 (wDat (wLst (wCons (wOp2 gAdd (wOp2 gAdd (wSl gSl (wVar 1) wNo (wPart (wVar 3))) (wTup (wCons (wVar 4) wNil))) (wSl gSl (wVar 1) (wPart (wOp2 gAdd (wVar 3) (wC (.int 1)))) wNo)) (wCons (wOp2 gAdd (wOp2 gAdd (wSl gSl (wVar 1) wNo (wPart (wVar 3))) (wTup (wCons (wOp2 gIx (wVar 1) (wVar 3)) wNil))) (wSl gSl (wVar 1) (wPart (wVar 3)) wNo)) (wCons (wOp2 gAdd (wVar 1) (wTup (wCons (wOp2 gIx (wVar 1) (wC (.int 0))) wNil))) (wCons (wTup wNil) wNil)))))))
  (wSeq (wSet 5 (wOp2 gAdd (wVar 5) (wDat (wLst (wCons (wOp2 gAdd (wVar 1) (wTup (wCons (wOp2 gAdd (wVar 2) (wC (.int 1))) wNil))) (wCons (wDat (wBL gListA (wCons (wVar 1) wNil))) (wCons (wC .none) (wCons (wOp2 gIx (wVar 1) (wC (.int 0))) (wCons (wC (.str (S [48]))) (wCons (wC (.dict [])) (wCons (wTup (wCons (wVar 1) wNil)) (wCons (wOp2 gAdd (wDat (wRevL (wVar 1))) (wTup (wCons (wOp2 gIx (wVar 1) (wOp1 gNeg (wC (.int 1)))) wNil))) wNil))))))))))))
  (wRet (wOp2 gIx (wVar 5) (wCall 2 F_law_draw (wCons (wVar 0) (wCons (wC (.int 12)) wNil)))))))))
def F_law_no_spots : FS := runF 6 w_law_no_spots
def w_law_no_line : WS := (wSeq (wSet 2 (wCall 2 F_law_draw (wCons (wVar 0) (wCons (wOp2 gAdd (wB gLen (wCons (wVar 1) wNil)) (wC (.int 1))) wNil))))
  (wSeq (wSet 3 (wOp2 gIx (wDat (wLst (wCons (wC (.str (S [48]))) (wCons (wC (.str (S [32]))) (wCons (wC (.str (S [124]))) (wCons (wC (.str (S [45]))) (wCons (wC (.str (S [35]))) (wCons (wC (.str (S [60]))) (wCons (wC (.str (S [10]))) (wCons (wC (.str (S [95]))) (wCons (wC (.str (S [91]))) (wCons (wC (.str (S [96]))) (wCons (wC (.str (S [123]))) (wCons (wC (.str (S [64]))) wNil)))))))))))))) (wCall 2 F_law_draw (wCons (wVar 0) (wCons (wC (.int 12)) wNil)))))
  (wSeq (wSet 4 (wDat (wLst (wCons (wOp2 gAdd (wOp2 gAdd (wSl gSl (wVar 1) wNo (wPart (wVar 2))) (wVar 3)) (wSl gSl (wVar 1) (wPart (wVar 2)) wNo)) (wCons (wOp2 gAdd (wOp2 gAdd (wSl gSl (wVar 1) wNo (wPart (wVar 2))) (wVar 3)) (wSl gSl (wVar 1) (wPart (wOp2 gAdd (wVar 2) (wC (.int 1)))) wNo)) (wCons (wDat (wBL gListA (wCons (wVar 1) wNil))) (wCons (wTup (wCons (wVar 1) wNil)) (wCons (wC .none) (wCons (wC (.int 0)) (wCons (wC (.bool true)) (wCons (wC (.dict [])) wNil)))))))))))
  (wRet (wOp2 gIx (wOp2 gAdd (wVar 4) (wDat (wLst (wCons (wDat (wLst (wCons (wVar 1) wNil))) wNil)))) (wCall 2 F_law_draw (wCons (wVar 0) (wCons (wC (.int 9)) wNil))))))))
def F_law_no_line : FS := runF 5 w_law_no_line
def w_law_no_strokes : WS := (wSeq (wSet 2 (wCall 2 F_law_draw (wCons (wVar 0) (wCons (wOp2 gAdd (wB gLen (wCons (wVar 1) wNil)) (wC (.int 1))) wNil))))
  (wSeq (wSet 3 (wOp2 gIx (wDat (wLst (wCons (wC (.str (S [65]))) (wCons (wC (.str (S [32]))) (wCons (wC (.str (S [124]))) (wCons (wC (.str (S [10]))) (wCons (wC (.str (S [48]))) (wCons (wC (.str (S [43]))) (wCons (wC (.str (S [95]))) (wCons (wC (.str (S [96]))) (wCons (wC (.str (S [123]))) (wCons (wC (.str (S [64]))) wNil)))))))))))) (wCall 2 F_law_draw (wCons (wVar 0) (wCons (wC (.int 10)) wNil)))))
  (wSeq (wSet 4 (wDat (wLst (wCons (wOp2 gAdd (wOp2 gAdd (wSl gSl (wVar 1) wNo (wPart (wVar 2))) (wVar 3)) (wSl gSl (wVar 1) (wPart (wVar 2)) wNo)) (wCons (wOp2 gAdd (wOp2 gAdd (wSl gSl (wVar 1) wNo (wPart (wVar 2))) (wVar 3)) (wSl gSl (wVar 1) (wPart (wOp2 gAdd (wVar 2) (wC (.int 1)))) wNo)) (wCons (wDat (wBL gListA (wCons (wVar 1) wNil))) (wCons (wTup wNil) (wCons (wC .none) (wCons (wC (.int 0)) (wCons (wC (.bool true)) wNil))))))))))
  (wRet (wOp2 gIx (wOp2 gAdd (wVar 4) (wDat (wLst (wCons (wC (.dict [])) (wCons (wDat (wLst (wCons (wVar 1) wNil))) (wCons (wTup (wCons (wC (.str (S [97]))) (wCons (wC (.str (S [98]))) wNil))) wNil)))))) (wCall 2 F_law_draw (wCons (wVar 0) (wCons (wC (.int 10)) wNil))))))))
def F_law_no_strokes : FS := runF 5 w_law_no_strokes
def w_law_source : WS := (wRet (wLoc (wLst (wCons (wB gMax (wCons (wC (.int 0)) (wCons (wOp2 gSub (wVar 0) (wOp2 gPow (wC (.int 10)) (wC (.int 18)))) wNil))) (wCons (wOp2 gAdd (wOp2 gMod (wVar 0) (wC (.int 162259276829213363391578010288127))) (wOp2 gMul (wC (.int 7919)) (wOp2 gAdd (wVar 1) (wC (.int 1))))) (wCons (wC (.int 0)) wNil))))))
def F_law_source : FS := runF 2 w_law_source
def w_law_cell_at : WS := (wSeq (wIfS (wCmpT gLt (wVar 1) (wScrLen (wVar 0))) (wRet (wScrAt (wVar 0) (wVar 1))) wNext)
  (wRet (wC (.int 0))))
def F_law_cell_at : FS := runF 2 w_law_cell_at
def w_law_draw_v1 : WS := (wSeq (wIfS (wCmpT gGt (wOp2 gIx (wVar 0) (wC (.int 0))) (wC (.int 1))) (wSeq (wSet 2 (wOp2 gMod (wOp2 gIx (wVar 0) (wC (.int 0))) (wVar 1)))
  (wSeq (wSetI (wVar 0) (wC (.int 0)) (wOp2 gDiv (wOp2 gIx (wVar 0) (wC (.int 0))) (wVar 1)))
  (wRet (wVar 2)))) wNext)
  (wSeq (wSetI (wVar 0) (wC (.int 2)) (wOp2 gAdd (wOp2 gIx (wVar 0) (wC (.int 2))) (wC (.int 1))))
  (wSeq (wSet 3 (wOp2 gMod (wOp2 gPow (wOp2 gAdd (wOp2 gIx (wVar 0) (wC (.int 1))) (wOp2 gMul (wC (.int 1299709)) (wOp2 gIx (wVar 0) (wC (.int 2))))) (wC (.int 3))) (wC (.int 162259276829213363391578010288127))))
  (wSeq (wSet 3 (wOp2 gMod (wOp2 gPow (wOp2 gAdd (wVar 3) (wOp2 gMul (wC (.int 15485863)) (wOp2 gIx (wVar 0) (wC (.int 2))))) (wC (.int 5))) (wC (.int 618970019642690137449562111))))
  (wRet (wOp2 gMod (wOp2 gDiv (wVar 3) (wC (.int 1048576))) (wVar 1)))))))
def F_law_draw_v1 : FS := runF 4 w_law_draw_v1
def w_law_spots_v1 : WS := (wSeq (wSet 2 (wCall 2 F_law_draw_v1 (wCons (wVar 0) (wCons (wC (.int 4)) wNil))))
  (wSeq (wSet 3 (wLoc (wLc (.nm 5) (wRng rng1 (wCons (wOp2 gAdd (wVar 1) (wC (.int 1))) wNil)) (wCmpT gEq (wVar 2) (wC (.int 0))) (wVar 5) [5])))
  (wSeq (wFor (.nm 4) (wRng rng1 (wCons (wOp2 gAdd (wC (.int 1)) (wCall 2 F_law_draw_v1 (wCons (wVar 0) (wCons (wC (.int 5)) wNil)))) wNil)) (wDrop (wU uAppend (wVar 3) (wCons (wCall 2 F_law_draw_v1 (wCons (wVar 0) (wCons (wOp2 gAdd (wVar 1) (wC (.int 1))) wNil))) wNil))))
  (wRet (wDat (wSortS (wVar 3)))))))
def F_law_spots_v1 : FS := runF 6 w_law_spots_v1
def w_law_keys : WS := (wSeq (wSet 2 (wC (.str (S []))))
  (wSeq (wWhile (wCmpT gLt (wB gLen (wCons (wVar 2) wNil)) (wVar 1)) (wSeq (wSet 3 (wOp2 gIx (wDat (wLst (wCons (wC (.str (S [97]))) (wCons (wC (.str (S [113]))) (wCons (wC (.str (S [45]))) (wCons (wC (.str (S [35]))) (wCons (wC (.str (S [60]))) (wCons (wC (.str (S [62]))) wNil)))))))) (wCall 2 F_law_draw_v1 (wCons (wVar 0) (wCons (wC (.int 6)) wNil)))))
  (wSet 2 (wOp2 gAdd (wVar 2) (wOp2 gMul (wVar 3) (wOp2 gIx (wDat (wLst (wCons (wC (.int 1)) (wCons (wC (.int 1)) (wCons (wOp2 gAdd (wC (.int 1)) (wCall 2 F_law_draw_v1 (wCons (wVar 0) (wCons (wC (.int 4)) wNil)))) wNil))))) (wCall 2 F_law_draw_v1 (wCons (wVar 0) (wCons (wC (.int 3)) wNil)))))))))
  (wRet (wSl gSl (wVar 2) wNo (wPart (wVar 1))))))
def F_law_keys : FS := runF 4 w_law_keys
def w_law_plan : WS := (wSeq (wSet 2 (wDat (wLc (.nm 3) (wRng rng1 (wCons (wOp2 gSub (wB gLen (wCons (wVar 1) wNil)) (wC (.int 1))) wNil)) wYes (wOp2 gSub (wOp2 gIx (wVar 1) (wOp2 gAdd (wVar 3) (wC (.int 1)))) (wOp2 gIx (wVar 1) (wVar 3))) [3])))
  (wRet (wTup (wCons (wOp2 gIx (wVar 1) (wC (.int 0))) (wCons (wB gTuple (wCons (wVar 2) wNil)) (wCons (wOp2 gSub (wB gLen (wCons (wVar 0) wNil)) (wOp2 gIx (wVar 1) (wOp2 gSub (wB gLen (wCons (wVar 1) wNil)) (wC (.int 1))))) wNil))))))
def F_law_plan : FS := runF 4 w_law_plan
def w_law_all_runs : WS := (wSeq (wSet 2 (wLoc (wLst wNil)))
  (wSeq (wFor (.nm 3) (wIt (wVar 1)) (wSeq (wSet 4 (wIf (wCmpT gIn (wVar 3) (wC (.str (S [97, 113])))) (wC (.str (S [120]))) (wVar 3)))
  (wIfS (wAndT (wCmpT gNe (wVar 2) (wDat (wLst wNil))) (wAndT (wCmpT gEq (wOp2 gIx (wOp2 gIx (wVar 2) (wOp2 gSub (wB gLen (wCons (wVar 2) wNil)) (wC (.int 1)))) (wC (.int 0))) (wVar 4)) (wCmpT gGt (wCall 2 F_law_draw_v1 (wCons (wVar 0) (wCons (wC (.int 4)) wNil))) (wC (.int 0))))) (wSetI (wVar 2) (wOp2 gSub (wB gLen (wCons (wVar 2) wNil)) (wC (.int 1))) (wTup (wCons (wVar 4) (wCons (wOp2 gAdd (wOp2 gIx (wOp2 gIx (wVar 2) (wOp2 gSub (wB gLen (wCons (wVar 2) wNil)) (wC (.int 1)))) (wC (.int 1))) (wC (.int 1))) wNil)))) (wSeq (wSet 5 (wTup (wCons (wOp2 gIx (wDat (wLst (wCons (wC (.str (S [45]))) (wCons (wC (.str (S [60]))) (wCons (wC (.str (S [98]))) wNil))))) (wCall 2 F_law_draw_v1 (wCons (wVar 0) (wCons (wC (.int 3)) wNil)))) (wCons (wC (.int 0)) wNil))))
  (wSet 2 (wLoc (wOpL gAddL (wDat (wOpL gAddL (wVar 2) (wDat (wOpL gMulL (wDat (wLst (wCons (wVar 5) wNil))) (wCall 2 F_law_draw_v1 (wCons (wVar 0) (wCons (wC (.int 2)) wNil))))))) (wDat (wLst (wCons (wTup (wCons (wVar 4) (wCons (wC (.int 1)) wNil))) wNil))))))))))
  (wRet (wB gTuple (wCons (wVar 2) wNil)))))
def F_law_all_runs : FS := runF 6 w_law_all_runs
def w_law_step : WS := (wSeq (wSet 3 (wB gLen (wCons (wVar 0) wNil)))
  (wSeq (wIfS (wOrT (wCmpT gEq (wVar 2) (wC (.str (S [60])))) (wCmpT gEq (wVar 2) (wC (.str (S [62]))))) (wSeq (wSet 4 (wOp2 gIx (wDat (wLst (wCons (wOp1 gNeg (wC (.int 1))) (wCons (wC (.int 1)) wNil)))) (wB gInt (wCons (wCmp gEq (wVar 2) (wC (.str (S [62])))) wNil))))
  (wSeq (wSet 5 (wDat (wLc (.nm 11) (wIt (wVar 1)) wYes (wB gMax (wCons (wC (.int 0)) (wCons (wB gMin (wCons (wVar 3) (wCons (wOp2 gAdd (wVar 11) (wVar 4)) wNil))) wNil))) [11])))
  (wRet (wTup (wCons (wVar 0) (wCons (wDat (wSortS (wVar 5))) wNil)))))) wNext)
  (wSeq (wIfS (wOrT (wCmpT gEq (wVar 2) (wC (.str (S [45])))) (wCmpT gEq (wVar 2) (wC (.str (S [35]))))) (wSeq (wSet 6 (wDat (wLc (.nm 11) (wIt (wVar 1)) wYes (wOp2 gSub (wVar 11) (wB gInt (wCons (wCmp gEq (wVar 2) (wC (.str (S [45])))) wNil))) [11])))
  (wSeq (wSet 6 (wDat (wLc (.nm 10) (wIt (wVar 6)) (wChainT gLe gLt (wC (.int 0)) (wVar 10) (wVar 3)) (wVar 10) [10])))
  (wSeq (wSet 7 (wDat (wLc (.nm 10) (wRng rng1 (wCons (wVar 3) wNil)) (wCmpT gNotIn (wVar 10) (wVar 6)) (wOp2 gIx (wVar 0) (wVar 10)) [10])))
  (wSeq (wSet 8 (wDat (wLc (.nm 11) (wIt (wVar 1)) wYes (wOp2 gSub (wVar 11) (wB gLen (wCons (wDat (wLc (.nm 10) (wIt (wVar 6)) (wCmpT gLt (wVar 10) (wVar 11)) (wVar 10) [10])) wNil))) [11])))
  (wRet (wTup (wCons (wVar 7) (wCons (wDat (wSortS (wVar 8))) wNil)))))))) wNext)
  (wSeq (wSet 9 (wLoc (wLst wNil)))
  (wSeq (wFor (.nm 10) (wRng rng1 (wCons (wOp2 gAdd (wVar 3) (wC (.int 1))) wNil)) (wSeq (wIfS (wCmpT gIn (wVar 10) (wVar 1)) (wDrop (wU uAppend (wVar 9) (wCons (wVar 2) wNil))) wNext)
  (wSet 9 (wLoc (wOpL gAddL (wVar 9) (wSl gSl (wVar 0) (wPart (wVar 10)) (wPart (wOp2 gAdd (wVar 10) (wC (.int 1))))))))))
  (wSeq (wSet 5 (wDat (wLc (.nm 12) (wRng rng1 (wCons (wB gLen (wCons (wVar 1) wNil)) wNil)) wYes (wOp2 gAdd (wOp2 gAdd (wOp2 gIx (wVar 1) (wVar 12)) (wVar 12)) (wC (.int 1))) [12])))
  (wRet (wTup (wCons (wVar 9) (wCons (wVar 5) wNil))))))))))
def F_law_step : FS := runF 13 w_law_step
def w_law_pressed : WS := (wSeq (wFor (.nm 3) (wIt (wVar 2)) (wUnp [0, 1] (wCall 3 F_law_step (wCons (wVar 0) (wCons (wVar 1) (wCons (wVar 3) wNil))))))
  (wRet (wTup (wCons (wVar 0) (wCons (wVar 1) wNil)))))
def F_law_pressed : FS := runF 4 w_law_pressed
def w_law_moved : WS := (wSeq (wSet 3 (wB gLen (wCons (wVar 0) wNil)))
  (wSeq (wIfS (wCmpT gEq (wVar 2) (wC (.str (S [60])))) (wRet (wDat (wLc (.nm 5) (wIt (wVar 1)) wYes (wB gMax (wCons (wC (.int 0)) (wCons (wOp2 gSub (wVar 5) (wC (.int 1))) wNil))) [5]))) wNext)
  (wSeq (wIfS (wCmpT gEq (wVar 2) (wC (.str (S [62])))) (wRet (wDat (wLc (.nm 5) (wIt (wVar 1)) wYes (wB gMin (wCons (wVar 3) (wCons (wOp2 gAdd (wVar 5) (wC (.int 1))) wNil))) [5]))) wNext)
  (wSeq (wIfS (wOrT (wCmpT gEq (wVar 2) (wC (.str (S [45])))) (wCmpT gEq (wVar 2) (wC (.str (S [35]))))) (wSeq (wSet 4 (wDat (wLc (.nm 5) (wIt (wVar 1)) wYes (wOp2 gSub (wVar 5) (wB gInt (wCons (wCmp gEq (wVar 2) (wC (.str (S [45])))) wNil))) [5])))
  (wSeq (wSet 4 (wDat (wLc (.nm 6) (wIt (wVar 4)) (wChainT gLe gLt (wC (.int 0)) (wVar 6) (wVar 3)) (wVar 6) [6])))
  (wRet (wDat (wLc (.nm 5) (wIt (wVar 1)) wYes (wOp2 gSub (wVar 5) (wB gLen (wCons (wDat (wLc (.nm 6) (wIt (wVar 4)) (wCmpT gLt (wVar 6) (wVar 5)) (wVar 6) [6])) wNil))) [5]))))) wNext)
  (wRet (wDat (wLc (.nm 7) (wRng rng1 (wCons (wB gLen (wCons (wVar 1) wNil)) wNil)) wYes (wOp2 gAdd (wOp2 gAdd (wOp2 gIx (wVar 1) (wVar 7)) (wVar 7)) (wC (.int 1))) [7])))))))
def F_law_moved : FS := runF 8 w_law_moved
def w_is_layout : WS := (wSeq (wIfS (wOrT (wNotT (wTru (wIsi "tuple" (wVar 0)))) (wOrT (wCmpT gNe (wB gLen (wCons (wVar 0) wNil)) (wC (.int 3))) (wNotT (wTru (wIsi "tuple" (wOp2 gIx (wVar 0) (wC (.int 1)))))))) (wRet (wC (.bool false))) wNext)
  (wSeq (wIfS (wOrT (wNotT (wTru (wCall 3 F_is_integer (wCons (wOp2 gIx (wVar 0) (wC (.int 0))) (wCons (wC (.int 0)) (wCons (wC .none) wNil)))))) (wNotT (wTru (wCall 3 F_is_integer (wCons (wOp2 gIx (wVar 0) (wC (.int 2))) (wCons (wC (.int 0)) (wCons (wC .none) wNil))))))) (wRet (wC (.bool false))) wNext)
  (wRet (wB gAll (wCons (wDat (wLc (.nm 1) (wIt (wOp2 gIx (wVar 0) (wC (.int 1)))) wYes (wCall 3 F_is_integer (wCons (wVar 1) (wCons (wC (.int 1)) (wCons (wC .none) wNil)))) [1])) wNil)))))
def F_is_layout : FS := runF 2 w_is_layout
def w_check_layout : WS := (wIfS (wNotT (wTru (wCall 1 F_is_layout (wCons (wVar 0) wNil)))) (wRaise "InvalidLayout") wNext)
def F_check_layout : FS := runF 1 w_check_layout
def w_is_run : WS := (wSeq (wIfS (wOrT (wNotT (wTru (wIsi "tuple" (wVar 0)))) (wOrT (wCmpT gNe (wB gLen (wCons (wVar 0) wNil)) (wC (.int 2))) (wOrT (wNotT (wTru (wIsi "str" (wOp2 gIx (wVar 0) (wC (.int 0)))))) (wCmpT gNe (wB gLen (wCons (wOp2 gIx (wVar 0) (wC (.int 0))) wNil)) (wC (.int 1)))))) (wRet (wC (.bool false))) wNext)
  (wRet (wAndV (wCmp gIn (wOp2 gIx (wVar 0) (wC (.int 0))) (wOp2 gAdd (wOp2 gAdd (wOp2 gAdd (wOp2 gAdd (wC (.str cLow)) (wC (.str (S [45])))) (wC (.str (S [35])))) (wC (.str (S [60])))) (wC (.str (S [62]))))) (wCall 3 F_is_integer (wCons (wOp2 gIx (wVar 0) (wC (.int 1))) (wCons (wC (.int 0)) (wCons (wC .none) wNil)))))))
def F_is_run : FS := runF 1 w_is_run
def w_check_runs : WS := (wIfS (wOrT (wNotT (wTru (wIsi "tuple" (wVar 0)))) (wNotT (wTru (wB gAll (wCons (wDat (wLc (.nm 1) (wIt (wVar 0)) wYes (wCall 1 F_is_run (wCons (wVar 1) wNil)) [1])) wNil))))) (wRaise "InvalidRuns") wNext)
def F_check_runs : FS := runF 2 w_check_runs
def w_runs_of : WS := (wSeq (wDrop (wCall 1 F_check_keys (wCons (wVar 0) wNil)))
  (wSeq (wSet 1 (wLoc (wLst wNil)))
  (wSeq (wFor (.nm 2) (wIt (wVar 0)) (wSeq (wSet 3 (wIf (wCmpT gIn (wVar 2) (wC (.str cLow))) (wC (.str (S [120]))) (wVar 2)))
  (wIfS (wAndT (wCmpT gNe (wVar 1) (wDat (wLst wNil))) (wCmpT gEq (wOp2 gIx (wOp2 gIx (wVar 1) (wOp1 gNeg (wC (.int 1)))) (wC (.int 0))) (wVar 3))) (wSetI (wVar 1) (wOp1 gNeg (wC (.int 1))) (wTup (wCons (wVar 3) (wCons (wOp2 gAdd (wOp2 gIx (wOp2 gIx (wVar 1) (wOp1 gNeg (wC (.int 1)))) (wC (.int 1))) (wC (.int 1))) wNil)))) (wDrop (wU uAppend (wVar 1) (wCons (wTup (wCons (wVar 3) (wCons (wC (.int 1)) wNil))) wNil))))))
  (wRet (wB gTuple (wCons (wVar 1) wNil))))))
def F_runs_of : FS := runF 4 w_runs_of
def w_law_same (G : FS) : WS := (wSeq (wIfS (wTru (wIsi2 "list" "tuple" (wVar 1))) (wSeq (wIfS (wOrT (wCmpT gNe (wIsi "list" (wVar 0)) (wIsi "list" (wVar 1))) (wNotT (wTru (wIsi2 "list" "tuple" (wVar 0))))) (wRet (wC (.bool false))) wNext)
  (wSeq (wIfS (wCmpT gNe (wB gLen (wCons (wVar 0) wNil)) (wB gLen (wCons (wVar 1) wNil))) (wRet (wC (.bool false))) wNext)
  (wRet (wB gAll (wCons (wDat (wLc (.nm 2) (wRng rng1 (wCons (wB gLen (wCons (wVar 1) wNil)) wNil)) wYes (wCall 2 G (wCons (wOp2 gIx (wVar 0) (wVar 2)) (wCons (wOp2 gIx (wVar 1) (wVar 2)) wNil))) [2])) wNil))))) wNext)
  (wSeq (wIfS (wOrT (wTru (wIsi "bool" (wVar 1))) (wTru (wIsi "bool" (wVar 0)))) (wRet (wAndV (wIsi "bool" (wVar 1)) (wAndV (wIsi "bool" (wVar 0)) (wCmp gEq (wVar 0) (wVar 1))))) wNext)
  (wRet (wCmp gEq (wVar 0) (wVar 1)))))
def F_law_same : Nat → FS
  | 0 => fun _ _ _ _ => False
  | n + 1 => runF 3 (w_law_same (F_law_same n))
def w_law_number : WS := (wRet (wCall 2 F_law_draw_v1 (wCons (wVar 0) (wCons (wOp2 gIx (wDat (wLst (wCons (wC (.int 4)) (wCons (wC (.int 30)) (wCons (wOp2 gPow (wC (.int 10)) (wC (.int 12))) (wCons (wOp2 gPow (wC (.int 10)) (wC (.int 31))) wNil)))))) (wCall 2 F_law_draw_v1 (wCons (wVar 0) (wCons (wC (.int 4)) wNil)))) wNil))))
def F_law_number : FS := runF 1 w_law_number
def w_law_some_plan : WS := (wSeq (wSet 1 (wCall 2 F_law_draw_v1 (wCons (wVar 0) (wCons (wOp2 gIx (wDat (wLst (wCons (wC (.int 4)) (wCons (wC (.int 20)) (wCons (wC (.int 81)) wNil))))) (wCall 2 F_law_draw_v1 (wCons (wVar 0) (wCons (wC (.int 3)) wNil)))) wNil))))
  (wSeq (wSet 2 (wB gTuple (wCons (wDat (wLc (.nm 3) (wRng rng1 (wCons (wVar 1) wNil)) wYes (wOp2 gAdd (wC (.int 1)) (wCall 1 F_law_number (wCons (wVar 0) wNil))) [3])) wNil)))
  (wRet (wTup (wCons (wCall 1 F_law_number (wCons (wVar 0) wNil)) (wCons (wVar 2) (wCons (wCall 1 F_law_number (wCons (wVar 0) wNil)) wNil)))))))
def F_law_some_plan : FS := runF 4 w_law_some_plan
def w_law_places : WS := (wSeq (wSet 1 (wOp2 gIx (wVar 0) (wC (.int 0))))
  (wSeq (wSet 2 (wLoc (wLst (wCons (wVar 1) wNil))))
  (wSeq (wFor (.nm 3) (wIt (wOp2 gIx (wVar 0) (wC (.int 1)))) (wSeq (wSet 1 (wOp2 gAdd (wVar 1) (wVar 3)))
  (wDrop (wU uAppend (wVar 2) (wCons (wVar 1) wNil)))))
  (wRet (wTup (wCons (wVar 2) (wCons (wOp2 gAdd (wVar 1) (wOp2 gIx (wVar 0) (wC (.int 2)))) wNil)))))))
def F_law_places : FS := runF 4 w_law_places
def w_law_plan_of : WS := (wSeq (wSet 2 (wDat (wSortS (wVar 0))))
  (wSeq (wSet 3 (wDat (wLc (.nm 4) (wRng rng1 (wCons (wOp2 gSub (wB gLen (wCons (wVar 2) wNil)) (wC (.int 1))) wNil)) wYes (wOp2 gSub (wOp2 gIx (wVar 2) (wOp2 gAdd (wVar 4) (wC (.int 1)))) (wOp2 gIx (wVar 2) (wVar 4))) [4])))
  (wRet (wTup (wCons (wOp2 gIx (wVar 2) (wC (.int 0))) (wCons (wB gTuple (wCons (wVar 3) wNil)) (wCons (wOp2 gSub (wVar 1) (wOp2 gIx (wVar 2) (wOp2 gSub (wB gLen (wCons (wVar 2) wNil)) (wC (.int 1))))) wNil)))))))
def F_law_plan_of : FS := runF 5 w_law_plan_of
def w_law_one_run : WS := (wSeq (wUnp [3, 4] (wCall 1 F_law_places (wCons (wVar 0) wNil)))
  (wSeq (wIfS (wCmpT gEq (wVar 1) (wC (.str (S [60])))) (wRet (wCall 2 F_law_plan_of (wCons (wDat (wLc (.nm 6) (wIt (wVar 3)) wYes (wB gMax (wCons (wC (.int 0)) (wCons (wOp2 gSub (wVar 6) (wVar 2)) wNil))) [6])) (wCons (wVar 4) wNil)))) wNext)
  (wSeq (wIfS (wCmpT gEq (wVar 1) (wC (.str (S [62])))) (wRet (wCall 2 F_law_plan_of (wCons (wDat (wLc (.nm 6) (wIt (wVar 3)) wYes (wB gMin (wCons (wVar 4) (wCons (wOp2 gAdd (wVar 6) (wVar 2)) wNil))) [6])) (wCons (wVar 4) wNil)))) wNext)
  (wSeq (wIfS (wCmpT gIn (wVar 1) (wC (.str (S [45, 35])))) (wSeq (wSet 5 (wB gTuple (wCons (wDat (wLc (.nm 7) (wIt (wOp2 gIx (wVar 0) (wC (.int 1)))) (wCmpT gGt (wVar 7) (wVar 2)) (wOp2 gSub (wVar 7) (wVar 2)) [7])) wNil)))
  (wSeq (wIfS (wCmpT gEq (wVar 1) (wC (.str (S [45])))) (wRet (wTup (wCons (wB gMax (wCons (wC (.int 0)) (wCons (wOp2 gSub (wOp2 gIx (wVar 0) (wC (.int 0))) (wVar 2)) wNil))) (wCons (wVar 5) (wCons (wOp2 gIx (wVar 0) (wC (.int 2))) wNil))))) wNext)
  (wRet (wTup (wCons (wOp2 gIx (wVar 0) (wC (.int 0))) (wCons (wVar 5) (wCons (wB gMax (wCons (wC (.int 0)) (wCons (wOp2 gSub (wOp2 gIx (wVar 0) (wC (.int 2))) (wVar 2)) wNil))) wNil))))))) wNext)
  (wRet (wTup (wCons (wOp2 gAdd (wOp2 gIx (wVar 0) (wC (.int 0))) (wVar 2)) (wCons (wB gTuple (wCons (wDat (wLc (.nm 7) (wIt (wOp2 gIx (wVar 0) (wC (.int 1)))) wYes (wOp2 gAdd (wVar 7) (wVar 2)) [7])) wNil)) (wCons (wOp2 gIx (wVar 0) (wC (.int 2))) wNil)))))))))
def F_law_one_run : FS := runF 8 w_law_one_run
def w_law_all_runs_v1 : WS := (wSeq (wFor (.tp [2, 3]) (wIt (wVar 1)) (wSet 0 (wCall 3 F_law_one_run (wCons (wVar 0) (wCons (wVar 2) (wCons (wVar 3) wNil))))))
  (wRet (wVar 0)))
def F_law_all_runs_v1 : FS := runF 4 w_law_all_runs_v1
def w_law_head : WS := (wSeq (wSet 2 (wLoc (wLst wNil)))
  (wSeq (wFor (.tp [3, 4]) (wIt (wVar 0)) (wSeq (wSet 5 (wB gMin (wCons (wVar 1) (wCons (wVar 4) wNil))))
  (wSeq (wSet 1 (wOp2 gSub (wVar 1) (wVar 5)))
  (wDrop (wU uAppend (wVar 2) (wCons (wTup (wCons (wVar 3) (wCons (wVar 5) wNil))) wNil))))))
  (wRet (wB gTuple (wCons (wVar 2) wNil)))))
def F_law_head : FS := runF 6 w_law_head
def w_law_owners_v1 : WS := (wSeq (wUnp [2, 3, 4] (wVar 0))
  (wSeq (wFor (.tp [5, 6]) (wIt (wVar 1)) (wIfS (wCmpT gIn (wVar 5) (wC (.str (S [60, 62])))) (wSeq (wUnp [7, 8] (wCall 1 F_law_places (wCons (wTup (wCons (wVar 2) (wCons (wVar 3) (wCons (wVar 4) wNil)))) wNil)))
  (wSeq (wIfS (wCmpT gEq (wVar 5) (wC (.str (S [60])))) (wSet 7 (wDat (wLc (.nm 11) (wIt (wVar 7)) wYes (wB gMax (wCons (wC (.int 0)) (wCons (wOp2 gSub (wVar 11) (wVar 6)) wNil))) [11]))) (wSet 7 (wDat (wLc (.nm 11) (wIt (wVar 7)) wYes (wB gMin (wCons (wVar 8) (wCons (wOp2 gAdd (wVar 11) (wVar 6)) wNil))) [11]))))
  (wSeq (wSet 2 (wOp2 gIx (wVar 7) (wC (.int 0))))
  (wSeq (wSet 3 (wDat (wLc (.nm 12) (wRng rng1 (wCons (wOp2 gSub (wB gLen (wCons (wVar 7) wNil)) (wC (.int 1))) wNil)) wYes (wOp2 gSub (wOp2 gIx (wVar 7) (wOp2 gAdd (wVar 12) (wC (.int 1)))) (wOp2 gIx (wVar 7) (wVar 12))) [12])))
  (wSet 4 (wOp2 gSub (wVar 8) (wOp2 gIx (wVar 7) (wOp2 gSub (wB gLen (wCons (wVar 7) wNil)) (wC (.int 1)))))))))) (wIfS (wCmpT gIn (wVar 5) (wC (.str (S [45, 35])))) (wSeq (wSet 3 (wDat (wLc (.nm 10) (wIt (wVar 3)) wYes (wB gMax (wCons (wC (.int 0)) (wCons (wOp2 gSub (wVar 10) (wVar 6)) wNil))) [10])))
  (wSeq (wSet 2 (wB gMax (wCons (wC (.int 0)) (wCons (wOp2 gSub (wVar 2) (wOp2 gMul (wVar 6) (wB gInt (wCons (wCmp gEq (wVar 5) (wC (.str (S [45])))) wNil)))) wNil))))
  (wSet 4 (wB gMax (wCons (wC (.int 0)) (wCons (wOp2 gSub (wVar 4) (wOp2 gMul (wVar 6) (wB gInt (wCons (wCmp gEq (wVar 5) (wC (.str (S [35])))) wNil)))) wNil)))))) (wSeq (wSet 3 (wDat (wLc (.nm 10) (wIt (wVar 3)) wYes (wOp2 gAdd (wVar 10) (wOp2 gMul (wVar 6) (wB gInt (wCons (wCmp gGt (wVar 10) (wC (.int 0))) wNil)))) [10])))
  (wSet 2 (wOp2 gAdd (wVar 2) (wVar 6)))))))
  (wSeq (wSet 9 (wLoc (wLst (wCons (wC (.int 0)) wNil))))
  (wSeq (wFor (.nm 10) (wIt (wVar 3)) (wDrop (wU uAppend (wVar 9) (wCons (wOp2 gAdd (wOp2 gIx (wVar 9) (wOp2 gSub (wB gLen (wCons (wVar 9) wNil)) (wC (.int 1)))) (wB gInt (wCons (wCmp gGt (wVar 10) (wC (.int 0))) wNil))) wNil))))
  (wRet (wFrz (wVar 9)))))))
def F_law_owners_v1 : FS := runF 13 w_law_owners_v1
def w_law_bad_runs : WS := (wSeq (wSet 2 (wDat (wLst (wCons (wC .none) (wCons (wTup (wCons (wC (.str (S [120]))) wNil)) (wCons (wTup (wCons (wC (.str (S [120]))) (wCons (wOp1 gNeg (wC (.int 1))) wNil))) (wCons (wTup (wCons (wC (.str (S [120]))) (wCons (wC (.bool true)) wNil))) (wCons (wTup (wCons (wC (.str (S [120]))) (wCons (wC (.str (S [49]))) wNil))) (wCons (wTup (wCons (wC (.str (S [88]))) (wCons (wC (.int 1)) wNil))) (wCons (wTup (wCons (wC (.str (S []))) (wCons (wC (.int 1)) wNil))) (wCons (wTup (wCons (wC (.str (S [120, 120]))) (wCons (wC (.int 1)) wNil))) wNil)))))))))))
  (wSeq (wSet 2 (wOp2 gAdd (wVar 2) (wDat (wLst (wCons (wTup (wCons (wC .none) (wCons (wC (.int 1)) wNil))) (wCons (wDat (wLst (wCons (wC (.str (S [120]))) (wCons (wC (.int 1)) wNil)))) (wCons (wTup (wCons (wC (.str (S [120]))) (wCons (wC (.int 1)) (wCons (wC (.int 1)) wNil)))) (wCons (wTup (wCons (wC (.int 1)) (wCons (wC (.str (S [120]))) wNil))) (wCons (wC (.str (S [120, 49]))) (wCons (wTup (wCons (wC (.str (S [43]))) (wCons (wC (.int 1)) wNil))) (wCons (wTup (wCons (wTup (wCons (wC (.str (S [120]))) wNil)) (wCons (wC (.int 1)) wNil))) wNil)))))))))))
  (wSeq (wSet 2 (wOp2 gAdd (wVar 2) (wDat (wLst (wCons (wTup (wCons (wC (.str (S [120]))) (wCons (wC .none) wNil))) (wCons (wTup (wCons (wC (.str (S [32]))) (wCons (wC (.int 2)) wNil))) wNil))))))
  (wSeq (wSet 3 (wCall 2 F_law_draw_v1 (wCons (wVar 0) (wCons (wC (.int 20)) wNil))))
  (wSeq (wIfS (wCmpT gGt (wVar 3) (wC (.int 16))) (wRet (wOp2 gIx (wDat (wLst (wCons (wC .none) (wCons (wDat (wBL gListA (wCons (wVar 1) wNil))) (wCons (wC (.str (S [120, 49]))) wNil))))) (wOp2 gSub (wVar 3) (wC (.int 17))))) wNext)
  (wSeq (wSet 4 (wCall 2 F_law_draw_v1 (wCons (wVar 0) (wCons (wOp2 gAdd (wB gLen (wCons (wVar 1) wNil)) (wC (.int 1))) wNil))))
  (wRet (wOp2 gAdd (wOp2 gAdd (wSl gSl (wVar 1) wNo (wPart (wVar 4))) (wTup (wCons (wOp2 gIx (wVar 2) (wVar 3)) wNil))) (wSl gSl (wVar 1) (wPart (wVar 4)) wNo)))))))))
def F_law_bad_runs : FS := runF 5 w_law_bad_runs
def w_law_bad_plan : WS := (wSeq (wSet 2 (wOp2 gIx (wDat (wLst (wCons (wC .none) (wCons (wOp1 gNeg (wC (.int 1))) (wCons (wC (.bool true)) (wCons (wC (.str (S [49]))) (wCons (wTup (wCons (wC (.int 1)) wNil)) (wCons (wDat (wLst (wCons (wC (.int 1)) wNil))) (wCons (wOp2 gSub (wC (.int 1)) (wOp2 gPow (wC (.int 10)) (wC (.int 20)))) wNil))))))))) (wCall 2 F_law_draw_v1 (wCons (wVar 0) (wCons (wC (.int 7)) wNil)))))
  (wSeq (wSet 3 (wCall 2 F_law_draw_v1 (wCons (wVar 0) (wCons (wC (.int 10)) wNil))))
  (wSeq (wIfS (wCmpT gEq (wVar 3) (wC (.int 0))) (wRet (wTup (wCons (wVar 2) (wCons (wOp2 gIx (wVar 1) (wC (.int 1))) (wCons (wOp2 gIx (wVar 1) (wC (.int 2))) wNil))))) wNext)
  (wSeq (wIfS (wCmpT gEq (wVar 3) (wC (.int 1))) (wRet (wTup (wCons (wOp2 gIx (wVar 1) (wC (.int 0))) (wCons (wOp2 gIx (wVar 1) (wC (.int 1))) (wCons (wVar 2) wNil))))) wNext)
  (wSeq (wIfS (wCmpT gGt (wVar 3) (wC (.int 5))) (wRet (wOp2 gIx (wDat (wLst (wCons (wC .none) (wCons (wDat (wBL gListA (wCons (wVar 1) wNil))) (wCons (wOp2 gAdd (wVar 1) (wTup (wCons (wC (.int 0)) wNil))) (wCons (wTup (wCons (wOp2 gIx (wVar 1) (wC (.int 0))) (wCons (wDat (wBL gListA (wCons (wOp2 gIx (wVar 1) (wC (.int 1))) wNil))) (wCons (wOp2 gIx (wVar 1) (wC (.int 2))) wNil)))) wNil)))))) (wOp2 gSub (wVar 3) (wC (.int 6))))) wNext)
  (wSeq (wSet 4 (wLoc (wBL gListA (wCons (wOp2 gIx (wVar 1) (wC (.int 1))) wNil))))
  (wSeq (wDrop (wU uInsert (wVar 4) (wCons (wCall 2 F_law_draw_v1 (wCons (wVar 0) (wCons (wOp2 gAdd (wB gLen (wCons (wVar 4) wNil)) (wC (.int 1))) wNil))) (wCons (wOp2 gIx (wDat (wLst (wCons (wVar 2) (wCons (wC (.int 0)) wNil)))) (wCall 2 F_law_draw_v1 (wCons (wVar 0) (wCons (wC (.int 2)) wNil)))) wNil))))
  (wRet (wTup (wCons (wOp2 gIx (wVar 1) (wC (.int 0))) (wCons (wB gTuple (wCons (wVar 4) wNil)) (wCons (wOp2 gIx (wVar 1) (wC (.int 2))) wNil))))))))))))
def F_law_bad_plan : FS := runF 5 w_law_bad_plan
def w_law_bad_keys : WS := (wSeq (wSet 2 (wCall 2 F_law_draw_v1 (wCons (wVar 0) (wCons (wC (.int 10)) wNil))))
  (wSeq (wIfS (wCmpT gGt (wVar 2) (wC (.int 5))) (wRet (wOp2 gIx (wDat (wLst (wCons (wC .none) (wCons (wC (.int 1)) (wCons (wDat (wLst (wCons (wC (.str (S [120]))) wNil))) (wCons (wTup (wCons (wC (.str (S [120]))) wNil)) wNil)))))) (wOp2 gSub (wVar 2) (wC (.int 6))))) wNext)
  (wSeq (wSet 3 (wCall 2 F_law_draw_v1 (wCons (wVar 0) (wCons (wOp2 gAdd (wB gLen (wCons (wVar 1) wNil)) (wC (.int 1))) wNil))))
  (wRet (wOp2 gAdd (wOp2 gAdd (wSl gSl (wVar 1) wNo (wPart (wVar 3))) (wOp2 gIx (wDat (wLst (wCons (wC (.str (S [88]))) (wCons (wC (.str (S [32]))) (wCons (wC (.str (S [43]))) (wCons (wC (.str (S [49]))) (wCons (wC (.str (S [124]))) (wCons (wC (.str (S [65]))) wNil)))))))) (wVar 2))) (wSl gSl (wVar 1) (wPart (wVar 3)) wNo))))))
def F_law_bad_keys : FS := runF 4 w_law_bad_keys
def w_law_plan_for : WS := (wSeq (wSet 2 (wLoc (wLst wNil)))
  (wSeq (wFor (.nm 3) (wRng rng1 (wCons (wOp2 gAdd (wC (.int 1)) (wCall 2 F_law_draw_v1 (wCons (wVar 0) (wCons (wC (.int 19)) wNil)))) wNil)) (wSeq (wSet 4 (wLoc (wLst (wCons (wOp2 gAdd (wC (.int 1)) (wCall 2 F_law_draw_v1 (wCons (wVar 0) (wCons (wC (.int 60)) wNil)))) (wCons (wVar 1) (wCons (wOp2 gAdd (wVar 1) (wC (.int 1))) (wCons (wOp2 gSub (wVar 1) (wC (.int 1))) wNil)))))))
  (wSeq (wDrop (wU uAppend (wVar 4) (wCons (wOp2 gAdd (wC (.int 1)) (wCall 2 F_law_draw_v1 (wCons (wVar 0) (wCons (wOp2 gPow (wC (.int 10)) (wC (.int 30))) wNil)))) wNil)))
  (wDrop (wU uAppend (wVar 2) (wCons (wB gMax (wCons (wC (.int 1)) (wCons (wOp2 gIx (wVar 4) (wCall 2 F_law_draw_v1 (wCons (wVar 0) (wCons (wC (.int 5)) wNil)))) wNil))) wNil))))))
  (wRet (wTup (wCons (wOp2 gAdd (wC (.int 2000)) (wCall 2 F_law_draw_v1 (wCons (wVar 0) (wCons (wOp2 gPow (wC (.int 10)) (wC (.int 20))) wNil)))) (wCons (wB gTuple (wCons (wVar 2) wNil)) (wCons (wOp2 gAdd (wC (.int 2000)) (wCall 2 F_law_draw_v1 (wCons (wVar 0) (wCons (wOp2 gPow (wC (.int 10)) (wC (.int 20))) wNil)))) wNil)))))))
def F_law_plan_for : FS := runF 5 w_law_plan_for
def w_sums_of : WS := (wSeq (wSet 1 (wLoc (wLst (wCons (wC (.int 0)) wNil))))
  (wSeq (wFor (.nm 2) (wIt (wVar 0)) (wIfS (wCmpT gIn (wVar 2) (wC (.str (S [45, 35])))) (wDrop (wU uAppend (wVar 1) (wCons (wOp2 gAdd (wOp2 gIx (wVar 1) (wOp1 gNeg (wC (.int 1)))) (wC (.int 1))) wNil))) (wIfS (wCmpT gNotIn (wVar 2) (wC (.str (S [60, 62])))) (wDrop (wU uAppend (wVar 1) (wCons (wOp2 gSub (wOp2 gIx (wVar 1) (wOp1 gNeg (wC (.int 1)))) (wC (.int 1))) wNil))) wNext)))
  (wRet (wFrz (wVar 1)))))
def F_sums_of : FS := runF 3 w_sums_of
def w_depth_of : WS := (wSeq (wDrop (wCall 1 F_check_keys (wCons (wVar 0) wNil)))
  (wRet (wB gMax (wCons (wCall 1 F_sums_of (wCons (wVar 0) wNil)) wNil))))
def F_depth_of : FS := runF 1 w_depth_of
def w_law_numbers : WS := (wSeq (wSet 1 (wC (.int 0)))
  (wSeq (wSet 2 (wC (.int 0)))
  (wSeq (wFor (.nm 3) (wIt (wVar 0)) (wSeq (wSet 2 (wOp2 gSub (wOp2 gAdd (wVar 2) (wB gInt (wCons (wCmp gIn (wVar 3) (wC (.str (S [97, 113])))) wNil))) (wB gInt (wCons (wCmp gIn (wVar 3) (wC (.str (S [45, 35])))) wNil))))
  (wSet 1 (wB gMax (wCons (wVar 1) (wCons (wOp2 gSub (wC (.int 0)) (wVar 2)) wNil))))))
  (wRet (wTup (wCons (wVar 1) (wCons (wVar 2) wNil)))))))
def F_law_numbers : FS := runF 4 w_law_numbers
def w_net_of : WS := (wSeq (wDrop (wCall 1 F_check_keys (wCons (wVar 0) wNil)))
  (wRet (wOp2 gSub (wC (.int 0)) (wOp2 gIx (wCall 1 F_sums_of (wCons (wVar 0) wNil)) (wOp1 gNeg (wC (.int 1)))))))
def F_net_of : FS := runF 1 w_net_of
def w_law_moment : WS := (wSeq (wFor (.nm 2) (wRng rng1 (wCons (wB gLen (wCons (wVar 0) wNil)) wNil)) (wIfS (wCmpT gEq (wOp2 gIx (wCall 1 F_law_numbers (wCons (wSl gSl (wVar 0) wNo (wPart (wOp2 gAdd (wVar 2) (wC (.int 1))))) wNil)) (wC (.int 1))) (wOp2 gSub (wC (.int 0)) (wVar 1))) (wRet (wOp2 gAdd (wVar 2) (wC (.int 1)))) wNext))
  (wRet (wC .none)))
def F_law_moment : FS := runF 3 w_law_moment
def w_law_source_v1 : WS := (wRet (wLoc (wLst (wCons (wB gMax (wCons (wC (.int 0)) (wCons (wOp2 gSub (wB gAbs (wCons (wVar 0) wNil)) (wOp2 gPow (wC (.int 10)) (wC (.int 18)))) wNil))) (wCons (wOp2 gMod (wVar 0) (wOp2 gAdd (wOp2 gPow (wC (.int 10)) (wC (.int 39))) (wC (.int 3)))) (wCons (wC (.int 0)) wNil))))))
def F_law_source_v1 : FS := runF 1 w_law_source_v1
def w_law_pressed_v1 : WS := (wSeq (wPar [3, 4] (wCons (wDat (wLstRg (wRg2 (wOp2 gSub (wC (.int 0)) (wVar 1)) (wVar 2)))) (wCons (wVar 1) wNil)))
  (wSeq (wFor (.nm 5) (wIt (wVar 0)) (wIfS (wCmpT gEq (wVar 5) (wC (.str (S [60])))) (wSet 4 (wB gMax (wCons (wC (.int 0)) (wCons (wOp2 gSub (wVar 4) (wC (.int 1))) wNil)))) (wIfS (wCmpT gEq (wVar 5) (wC (.str (S [62])))) (wSet 4 (wB gMin (wCons (wB gLen (wCons (wVar 3) wNil)) (wCons (wOp2 gAdd (wVar 4) (wC (.int 1))) wNil)))) (wIfS (wCmpT gEq (wVar 5) (wC (.str (S [45])))) (wPar [3, 4] (wCons (wOp2 gAdd (wSl gSl (wVar 3) wNo (wPart (wB gMax (wCons (wC (.int 0)) (wCons (wOp2 gSub (wVar 4) (wC (.int 1))) wNil))))) (wSl gSl (wVar 3) (wPart (wVar 4)) wNo)) (wCons (wB gMax (wCons (wC (.int 0)) (wCons (wOp2 gSub (wVar 4) (wC (.int 1))) wNil))) wNil))) (wIfS (wCmpT gEq (wVar 5) (wC (.str (S [35])))) (wSet 3 (wOp2 gAdd (wSl gSl (wVar 3) wNo (wPart (wVar 4))) (wSl gSl (wVar 3) (wPart (wOp2 gAdd (wVar 4) (wC (.int 1)))) wNo))) (wPar [3, 4] (wCons (wOp2 gAdd (wOp2 gAdd (wSl gSl (wVar 3) wNo (wPart (wVar 4))) (wDat (wLst (wCons (wVar 5) wNil)))) (wSl gSl (wVar 3) (wPart (wVar 4)) wNo)) (wCons (wOp2 gAdd (wVar 4) (wC (.int 1))) wNil))))))))
  (wRet (wTup (wCons (wVar 3) (wCons (wVar 4) wNil))))))
def F_law_pressed_v1 : FS := runF 6 w_law_pressed_v1
def w_law_is_mark : WS := (wRet (wAndV (wIsi "int" (wVar 0)) (wNotV (wIsi "bool" (wVar 0)))))
def F_law_is_mark : FS := runF 1 w_law_is_mark
def w_law_touched : WS := (wSeq (wPar [1, 2, 3] (wCons (wOp2 gAdd (wB gLen (wCons (wVar 0) wNil)) (wC (.int 1))) (wCons (wC (.int 0)) (wCons (wC (.int 0)) wNil))))
  (wSeq (wFor (.nm 4) (wRng rng1 (wCons (wOp2 gAdd (wB gLen (wCons (wVar 0) wNil)) (wC (.int 1))) wNil)) (wSeq (wUnp [5, 6] (wCall 3 F_law_pressed_v1 (wCons (wSl gSl (wVar 0) wNo (wPart (wVar 4))) (wCons (wVar 1) (wCons (wVar 1) wNil)))))
  (wSeq (wSet 2 (wB gMax (wCons (wVar 2) (wCons (wOp2 gSub (wVar 1) (wB gLen (wCons (wDat (wLc (.nm 7) (wIt (wSl gSl (wVar 5) wNo (wPart (wVar 6)))) (wAndT (wTru (wCall 1 F_law_is_mark (wCons (wVar 7) wNil))) (wCmpT gLt (wVar 7) (wC (.int 0)))) (wC (.int 1)) [7])) wNil))) wNil))))
  (wSet 3 (wB gMax (wCons (wVar 3) (wCons (wOp2 gSub (wVar 1) (wB gLen (wCons (wDat (wLc (.nm 7) (wIt (wSl gSl (wVar 5) (wPart (wVar 6)) wNo)) (wAndT (wTru (wCall 1 F_law_is_mark (wCons (wVar 7) wNil))) (wCmpT gGe (wVar 7) (wC (.int 0)))) (wC (.int 1)) [7])) wNil))) wNil)))))))
  (wRet (wTup (wCons (wVar 2) (wCons (wVar 3) wNil))))))
def F_law_touched : FS := runF 8 w_law_touched
def w_far_run : WS := (wSeq (wPar [1, 2] (wCons (wC (.int 0)) (wCons (wC (.int 0)) wNil)))
  (wSeq (wPar [3, 4] (wCons (wLoc (wLst wNil)) (wCons (wLoc (wLst wNil)) wNil)))
  (wSeq (wFor (.nm 5) (wIt (wVar 0)) (wSeq (wIfS (wAndT (wCmpT gIn (wVar 5) (wC (.str (S [45, 60])))) (wCmpT gEq (wVar 3) (wDat (wLst wNil)))) (wSeq (wAug gIAdd 1 (wC (.int 1)))
  (wDrop (wU uAppend (wVar 3) (wCons (wOp2 gSub (wC (.int 0)) (wVar 1)) wNil)))) wNext)
  (wSeq (wIfS (wAndT (wCmpT gIn (wVar 5) (wC (.str (S [35, 62])))) (wCmpT gEq (wVar 4) (wDat (wLst wNil)))) (wSeq (wDrop (wU uAppend (wVar 4) (wCons (wVar 2) wNil)))
  (wAug gIAdd 2 (wC (.int 1)))) wNext)
  (wIfS (wCmpT gEq (wVar 5) (wC (.str (S [45])))) (wDrop (wU0 uPop (wVar 3))) (wIfS (wCmpT gEq (wVar 5) (wC (.str (S [35])))) (wDrop (wU0 uPop (wVar 4))) (wIfS (wCmpT gEq (wVar 5) (wC (.str (S [60])))) (wDrop (wU uAppend (wVar 4) (wCons (wU0 uPop (wVar 3)) wNil))) (wIfS (wCmpT gEq (wVar 5) (wC (.str (S [62])))) (wDrop (wU uAppend (wVar 3) (wCons (wU0 uPop (wVar 4)) wNil))) (wDrop (wU uAppend (wVar 3) (wCons (wVar 5) wNil))))))))))
  (wRet (wTup (wCons (wVar 1) (wCons (wVar 2) (wCons (wVar 3) (wCons (wVar 4) wNil)))))))))
def F_far_run : FS := runF 6 w_far_run
def w_reach_of : WS := (wSeq (wDrop (wCall 1 F_check_keys (wCons (wVar 0) wNil)))
  (wRet (wSl gSl (wCall 1 F_far_run (wCons (wVar 0) wNil)) wNo (wPart (wC (.int 2))))))
def F_reach_of : FS := runF 1 w_reach_of
def w_law_right_k09 : WS := (wSeq (wSet 1 (wCall 1 F_law_touched (wCons (wVar 0) wNil)))
  (wSeq (wIfS (wCmpT gNe (wB gRepr (wCons (wDat (wLst (wCons (wCall 1 F_reach_of (wCons (wVar 0) wNil)) (wCons (wCallK0 1 1 F_reach_of [0] (wCons (wVar 0) wNil)) wNil)))) wNil)) (wB gRepr (wCons (wDat (wLst (wCons (wVar 1) (wCons (wVar 1) wNil)))) wNil))) (wRet (wC (.bool false))) wNext)
  (wSeq (wSet 2 (wLoc (wLst wNil)))
  (wSeq (wFor (.nm 3) (wRng rng1 (wCons (wOp2 gAdd (wB gLen (wCons (wVar 0) wNil)) (wC (.int 1))) wNil)) (wSeq (wSet 4 (wSl gSl (wVar 0) wNo (wPart (wVar 3))))
  (wSeq (wSet 5 (wOp2 gAdd (wM "str" mCount (wVar 4) (wCons (wC (.str (S [45]))) wNil)) (wM "str" mCount (wVar 4) (wCons (wC (.str (S [35]))) wNil))))
  (wSeq (wSet 6 (wOp2 gAdd (wM "str" mCount (wVar 4) (wCons (wC (.str (S [60]))) wNil)) (wM "str" mCount (wVar 4) (wCons (wC (.str (S [62]))) wNil))))
  (wDrop (wU uAppend (wVar 2) (wCons (wOp2 gSub (wOp2 gAdd (wOp2 gMul (wC (.int 2)) (wVar 5)) (wVar 6)) (wVar 3)) wNil)))))))
  (wSeq (wIfS (wCmpT gNe (wB gRepr (wCons (wDat (wLst (wCons (wCall 1 F_depth_of (wCons (wVar 0) wNil)) (wCons (wCallK0 1 1 F_depth_of [0] (wCons (wVar 0) wNil)) wNil)))) wNil)) (wB gRepr (wCons (wDat (wOpL gMulL (wDat (wLst (wCons (wB gMax (wCons (wVar 2) wNil)) wNil))) (wC (.int 2)))) wNil))) (wRet (wC (.bool false))) wNext)
  (wRet (wCmp gEq (wB gRepr (wCons (wDat (wLst (wCons (wCall 1 F_net_of (wCons (wVar 0) wNil)) (wCons (wCallK0 1 1 F_net_of [0] (wCons (wVar 0) wNil)) wNil)))) wNil)) (wB gRepr (wCons (wDat (wOpL gMulL (wDat (wLst (wCons (wOp2 gSub (wC (.int 0)) (wOp2 gIx (wVar 2) (wOp1 gNeg (wC (.int 1))))) wNil))) (wC (.int 2)))) wNil)))))))))
def F_law_right_k09 : FS := runF 7 w_law_right_k09
def w_law_draw_v2 : WS := (wSeq (wIfS (wCmpT gGt (wOp2 gIx (wVar 0) (wC (.int 0))) (wC (.int 0))) (wSeq (wSet 2 (wOp2 gMod (wOp2 gIx (wVar 0) (wC (.int 0))) (wVar 1)))
  (wSeq (wSetI (wVar 0) (wC (.int 0)) (wOp2 gDiv (wOp2 gIx (wVar 0) (wC (.int 0))) (wVar 1)))
  (wRet (wVar 2)))) wNext)
  (wSeq (wSetI (wVar 0) (wC (.int 2)) (wOp2 gAdd (wOp2 gIx (wVar 0) (wC (.int 2))) (wC (.int 1))))
  (wSeq (wSet 3 (wOp2 gMod (wOp2 gPow (wOp2 gAdd (wOp2 gIx (wVar 0) (wC (.int 1))) (wOp2 gMul (wC (.int 86028157)) (wOp2 gIx (wVar 0) (wC (.int 2))))) (wC (.int 3))) (wOp2 gAdd (wOp2 gPow (wC (.int 10)) (wC (.int 41))) (wC (.int 37)))))
  (wSeq (wSet 3 (wOp2 gMod (wOp2 gPow (wOp2 gAdd (wVar 3) (wOp2 gMul (wC (.int 122949823)) (wOp2 gIx (wVar 0) (wC (.int 2))))) (wC (.int 3))) (wOp2 gAdd (wOp2 gPow (wC (.int 10)) (wC (.int 40))) (wC (.int 121)))))
  (wRet (wOp2 gMod (wOp2 gDiv (wVar 3) (wC (.int 1299709))) (wVar 1)))))))
def F_law_draw_v2 : FS := runF 4 w_law_draw_v2
def w_law_keys_v1 : WS := (wSeq (wSet 2 (wOp2 gIx (wDat (wLst (wCons (wC (.str (S [97, 98, 45, 35, 60, 62]))) (wCons (wC (.str (S [97, 45, 35, 60, 62]))) (wCons (wC (.str (S [60, 62, 120]))) (wCons (wC (.str (S [45, 35, 120, 121]))) (wCons (wC (.str (S [60, 62, 45, 35]))) (wCons (wC (.str (S [97, 98, 99, 100, 101, 102, 103, 104, 105, 106, 107, 108, 109, 110, 111, 112, 113, 114, 115, 116, 117, 118, 119, 120, 121, 122, 45, 35, 60, 62]))) wNil)))))))) (wCall 2 F_law_draw_v2 (wCons (wVar 0) (wCons (wC (.int 6)) wNil)))))
  (wRet (wM "str" mJoin (wC (.str (S []))) (wCons (wDat (wLc (.nm 3) (wRng rng1 (wCons (wCall 2 F_law_draw_v2 (wCons (wVar 0) (wCons (wOp2 gAdd (wVar 1) (wC (.int 1))) wNil))) wNil)) wYes (wOp2 gIx (wVar 2) (wCall 2 F_law_draw_v2 (wCons (wVar 0) (wCons (wB gLen (wCons (wVar 2) wNil)) wNil)))) [3])) wNil))))
def F_law_keys_v1 : FS := runF 4 w_law_keys_v1
def w_law_all_keys : WS := (wSeq (wPar [2, 3] (wCons (wDat (wLst (wCons (wC (.str (S []))) wNil))) (wCons (wDat (wLst (wCons (wC (.str (S []))) wNil))) wNil)))
  (wSeq (wFor (.nm 4) (wRng rng1 (wCons (wVar 1) wNil)) (wSeq (wSet 5 (wLoc (wLst wNil)))
  (wSeq (wFor (.nm 6) (wIt (wVar 3)) (wDrop (wU uExtend (wVar 5) (wCons (wDat (wLc (.nm 7) (wIt (wVar 0)) wYes (wOp2 gAdd (wVar 6) (wVar 7)) [7])) wNil))))
  (wPar [2, 3] (wCons (wOp2 gAdd (wVar 2) (wVar 5)) (wCons (wVar 5) wNil))))))
  (wRet (wVar 2))))
def F_law_all_keys : FS := runF 8 w_law_all_keys
def w_law_cell : WS := (wRet (wIf (wCmpT gLt (wVar 1) (wScrLen (wVar 0))) (wScrAt (wVar 0) (wVar 1)) (wC (.int 0))))
def F_law_cell : FS := runF 2 w_law_cell
def w_effect_of : WS := (wSeq (wUnp [1, 2, 3, 4] (wCall 1 F_far_run (wCons (wVar 0) wNil)))
  (wRet (wTup (wCons (wVar 1) (wCons (wVar 2) (wCons (wB gTuple (wCons (wOp2 gAdd (wVar 3) (wDat (wRevL (wVar 4)))) wNil)) (wCons (wB gLen (wCons (wVar 3) wNil)) wNil)))))))
def F_effect_of : FS := runF 5 w_effect_of
def w_far_effect : WS := (wSeq (wDrop (wCall 1 F_check_keys (wCons (wVar 0) wNil)))
  (wRet (wCall 1 F_effect_of (wCons (wVar 0) wNil))))
def F_far_effect : FS := runF 1 w_far_effect
def w_completed : WS := (wSeq (wUnp [3, 4, 5, 6] (wVar 0))
  (wSeq (wSet 7 (wTupRg (wRg2 (wOp2 gSub (wC (.int 0)) (wVar 1)) (wOp2 gSub (wC (.int 0)) (wVar 3)))))
  (wSeq (wSet 8 (wTupRg (wRg2 (wVar 4) (wVar 2))))
  (wRet (wTup (wCons (wVar 1) (wCons (wVar 2) (wCons (wOp2 gAdd (wOp2 gAdd (wVar 7) (wVar 5)) (wVar 8)) (wCons (wOp2 gAdd (wVar 6) (wB gLen (wCons (wVar 7) wNil))) wNil)))))))))
def F_completed : FS := runF 9 w_completed
def w_same_far : WS := (wSeq (wDrop (wCall 1 F_check_keys (wCons (wVar 0) wNil)))
  (wSeq (wDrop (wCall 1 F_check_keys (wCons (wVar 1) wNil)))
  (wSeq (wPar [2, 3] (wCons (wCall 1 F_effect_of (wCons (wVar 0) wNil)) (wCons (wCall 1 F_effect_of (wCons (wVar 1) wNil)) wNil)))
  (wSeq (wPar [4, 5] (wCons (wB gMax (wCons (wOp2 gIx (wVar 2) (wC (.int 0))) (wCons (wOp2 gIx (wVar 3) (wC (.int 0))) wNil))) (wCons (wB gMax (wCons (wOp2 gIx (wVar 2) (wC (.int 1))) (wCons (wOp2 gIx (wVar 3) (wC (.int 1))) wNil))) wNil)))
  (wRet (wCmp gEq (wCall 3 F_completed (wCons (wVar 2) (wCons (wVar 4) (wCons (wVar 5) wNil)))) (wCall 3 F_completed (wCons (wVar 3) (wCons (wVar 4) (wCons (wVar 5) wNil))))))))))
def F_same_far : FS := runF 6 w_same_far
def w_law_bent_v1 : WS := (wSeq (wPar [2, 3] (wCons (wCall 2 F_law_draw_v2 (wCons (wVar 0) (wCons (wOp2 gAdd (wB gLen (wCons (wVar 1) wNil)) (wC (.int 1))) wNil))) (wCons (wCall 2 F_law_draw_v2 (wCons (wVar 0) (wCons (wC (.int 5)) wNil))) wNil)))
  (wSeq (wSet 4 (wOp2 gIx (wC (.str (S [97, 45, 35, 60, 62, 98]))) (wCall 2 F_law_draw_v2 (wCons (wVar 0) (wCons (wC (.int 6)) wNil)))))
  (wSeq (wIfS (wCmpT gEq (wVar 3) (wC (.int 0))) (wRet (wOp2 gAdd (wOp2 gAdd (wSl gSl (wVar 1) wNo (wPart (wVar 2))) (wVar 4)) (wSl gSl (wVar 1) (wPart (wVar 2)) wNo))) wNext)
  (wSeq (wIfS (wCmpT gEq (wVar 3) (wC (.int 1))) (wRet (wOp2 gAdd (wSl gSl (wVar 1) wNo (wPart (wVar 2))) (wSl gSl (wVar 1) (wPart (wOp2 gAdd (wVar 2) (wC (.int 1)))) wNo))) wNext)
  (wSeq (wIfS (wCmpT gEq (wVar 3) (wC (.int 2))) (wRet (wOp2 gAdd (wOp2 gAdd (wSl gSl (wVar 1) wNo (wPart (wVar 2))) (wVar 4)) (wSl gSl (wVar 1) (wPart (wOp2 gAdd (wVar 2) (wC (.int 1)))) wNo))) wNext)
  (wSeq (wIfS (wCmpT gEq (wVar 3) (wC (.int 3))) (wRet (wOp2 gAdd (wOp2 gAdd (wSl gSl (wVar 1) wNo (wPart (wVar 2))) (wRevS (wSl gSl (wVar 1) (wPart (wVar 2)) (wPart (wOp2 gAdd (wVar 2) (wC (.int 2))))))) (wSl gSl (wVar 1) (wPart (wOp2 gAdd (wVar 2) (wC (.int 2)))) wNo))) wNext)
  (wRet (wOp2 gAdd (wOp2 gAdd (wSl gSl (wVar 1) wNo (wPart (wVar 2))) (wOp2 gIx (wDat (wLst (wCons (wC (.str (S [60, 62]))) (wCons (wC (.str (S [62, 60]))) wNil)))) (wCall 2 F_law_draw_v2 (wCons (wVar 0) (wCons (wC (.int 2)) wNil))))) (wSl gSl (wVar 1) (wPart (wVar 2)) wNo)))))))))
def F_law_bent_v1 : FS := runF 5 w_law_bent_v1
def w_law_right_k11 : WS := (wSeq (wSet 2 (wOp2 gAdd (wB gMax (wCons (wB gLen (wCons (wVar 0) wNil)) (wCons (wB gLen (wCons (wVar 1) wNil)) wNil))) (wC (.int 1))))
  (wSeq (wSet 3 (wCmp gEq (wCall 3 F_law_pressed_v1 (wCons (wVar 0) (wCons (wVar 2) (wCons (wVar 2) wNil)))) (wCall 3 F_law_pressed_v1 (wCons (wVar 1) (wCons (wVar 2) (wCons (wVar 2) wNil))))))
  (wRet (wCmp gEq (wB gRepr (wCons (wDat (wLst (wCons (wCall 2 F_same_far (wCons (wVar 0) (wCons (wVar 1) wNil))) (wCons (wCallK0 2 2 F_same_far [1, 0] (wCons (wVar 0) (wCons (wVar 1) wNil))) wNil)))) wNil)) (wB gRepr (wCons (wDat (wLst (wCons (wVar 3) (wCons (wVar 3) wNil)))) wNil))))))
def F_law_right_k11 : FS := runF 4 w_law_right_k11
def w_law_alike : WS := (wSeq (wFor (.nm 3) (wRng rng1 (wCons (wOp2 gAdd (wC (.int 1)) (wCall 2 F_law_draw_v2 (wCons (wVar 0) (wCons (wVar 2) wNil)))) wNil)) (wSeq (wSet 4 (wCall 2 F_law_draw_v2 (wCons (wVar 0) (wCons (wOp2 gAdd (wB gLen (wCons (wVar 1) wNil)) (wC (.int 1))) wNil))))
  (wSet 1 (wOp2 gAdd (wOp2 gAdd (wSl gSl (wVar 1) wNo (wPart (wVar 4))) (wOp2 gIx (wDat (wLst (wCons (wC (.str (S [120, 45]))) (wCons (wC (.str (S [121, 60, 35]))) (wCons (wC (.str (S [122, 120, 45, 45]))) (wCons (wC (.str (S [120, 60, 121, 62, 45, 45]))) (wCons (wC (.str (S [107, 60, 35]))) wNil))))))) (wCall 2 F_law_draw_v2 (wCons (wVar 0) (wCons (wC (.int 5)) wNil))))) (wSl gSl (wVar 1) (wPart (wVar 4)) wNo)))))
  (wRet (wVar 1)))
def F_law_alike : FS := runF 5 w_law_alike
def w_law_far_alike : WS := (wSeq (wSet 2 (wCall 2 F_law_draw_v2 (wCons (wVar 0) (wCons (wOp2 gAdd (wB gLen (wCons (wVar 1) wNil)) (wC (.int 1))) wNil))))
  (wSeq (wSet 3 (wOp2 gIx (wDat (wLst (wCons (wC (.str (S [60, 62]))) (wCons (wC (.str (S [62, 60]))) (wCons (wC (.str (S [60, 120, 35, 62]))) (wCons (wC (.str (S [60, 60, 62, 62]))) wNil)))))) (wCall 2 F_law_draw_v2 (wCons (wVar 0) (wCons (wC (.int 4)) wNil)))))
  (wRet (wCall 3 F_law_alike (wCons (wVar 0) (wCons (wOp2 gAdd (wOp2 gAdd (wSl gSl (wVar 1) wNo (wPart (wVar 2))) (wVar 3)) (wSl gSl (wVar 1) (wPart (wVar 2)) wNo)) (wCons (wC (.int 3)) wNil)))))))
def F_law_far_alike : FS := runF 4 w_law_far_alike
def w_law_k11 : WS := (wSeq (wSet 1 (wCall 2 F_law_all_keys (wCons (wC (.str (S [97, 45, 35, 60, 62]))) (wCons (wC (.int 2)) wNil))))
  (wSeq (wFor (.nm 2) (wIt (wVar 1)) (wIfS (wCmpT gNe (wDat (wLc (.nm 6) (wIt (wVar 1)) (wNotT (wTru (wCall 2 F_law_right_k11 (wCons (wVar 2) (wCons (wVar 6) wNil))))) (wVar 6) [6])) (wDat (wLst wNil))) (wRet (wC (.bool false))) wNext))
  (wSeq (wFor (.nm 3) (wRng rng1 (wCons (wB gMax (wCons (wC (.int 1)) (wCons (wB gMin (wCons (wC (.int 6)) (wCons (wScrLen (wVar 0)) wNil))) wNil))) wNil)) (wSeq (wSet 4 (wCall 1 F_law_source_v1 (wCons (wOp2 gAdd (wOp2 gMulC (wCall 2 F_law_cell (wCons (wVar 0) (wCons (wVar 3) wNil))) (wC (.int 3))) (wC (.int 11))) wNil)))
  (wFor (.nm 5) (wRng rng1 (wCons (wC (.int 4)) wNil)) (wSeq (wSet 2 (wCall 2 F_law_keys_v1 (wCons (wVar 4) (wCons (wOp2 gIx (wDat (wLst (wCons (wC (.int 6)) (wCons (wC (.int 30)) wNil)))) (wOp2 gMod (wVar 5) (wC (.int 2)))) wNil))))
  (wSeq (wSet 6 (wCall 2 F_law_bent_v1 (wCons (wVar 4) (wCons (wVar 2) wNil))))
  (wSeq (wIfS (wOrT (wNotT (wTru (wCall 2 F_law_right_k11 (wCons (wVar 2) (wCons (wVar 6) wNil))))) (wNotT (wTru (wCall 2 F_law_right_k11 (wCons (wCall 3 F_law_alike (wCons (wVar 4) (wCons (wVar 2) (wCons (wC (.int 3)) wNil)))) (wCons (wVar 2) wNil)))))) (wRet (wC (.bool false))) wNext)
  (wSeq (wSet 7 (wOp2 gIx (wDat (wLst (wCons (wVar 2) (wCons (wCall 3 F_law_alike (wCons (wVar 4) (wCons (wVar 2) (wCons (wC (.int 3)) wNil)))) wNil)))) (wCall 2 F_law_draw_v2 (wCons (wVar 4) (wCons (wC (.int 2)) wNil)))))
  (wSeq (wPar [8, 9] (wCons (wCall 2 F_law_keys_v1 (wCons (wVar 4) (wCons (wC (.int 5)) wNil))) (wCons (wCall 2 F_law_keys_v1 (wCons (wVar 4) (wCons (wC (.int 5)) wNil))) wNil)))
  (wSeq (wIfS (wNotT (wTru (wCall 2 F_same_far (wCons (wOp2 gAdd (wOp2 gAdd (wVar 8) (wVar 2)) (wVar 9)) (wCons (wOp2 gAdd (wOp2 gAdd (wVar 8) (wVar 7)) (wVar 9)) wNil))))) (wRet (wC (.bool false))) wNext)
  (wIfS (wNotT (wTru (wCall 2 F_law_right_k11 (wCons (wCall 2 F_law_far_alike (wCons (wVar 4) (wCons (wVar 2) wNil))) (wCons (wCall 2 F_law_far_alike (wCons (wVar 4) (wCons (wVar 6) wNil))) wNil))))) (wRet (wC (.bool false))) wNext))))))))))
  (wRet (wAndV (wCall 2 F_same_far (wCons (wC (.str (S [97, 60, 98, 62]))) (wCons (wC (.str (S [98, 97]))) wNil))) (wAndV (wCall 2 F_same_far (wCons (wC (.str (S [60, 62]))) (wCons (wC (.str (S []))) wNil))) (wAndV (wCall 2 F_same_far (wCons (wOp2 gMul (wC (.str (S [120, 45]))) (wC (.int 25))) (wCons (wC (.str (S []))) wNil))) (wNotV (wCall 2 F_same_far (wCons (wC (.str (S [45]))) (wCons (wC (.str (S [60, 35, 62]))) wNil)))))))))))
def F_law_k11 : FS := runF 10 w_law_k11
def w_law_no_keys : WS := (wSeq (wSet 0 (wDat (wLst (wCons (wC .none) (wCons (wC (.int 0)) (wCons (wC (.bool true)) (wCons (wDat (wLst wNil)) (wCons (wDat (wLst (wCons (wC (.str (S [97]))) wNil))) (wCons (wTup (wCons (wC (.str (S [97]))) (wCons (wC (.str (S [45]))) wNil))) (wCons (wC (.dict [])) (wCons (wC (.str (S [65]))) (wCons (wC (.str (S [97, 32, 98]))) (wCons (wC (.str (S [97, 124]))) (wCons (wC (.str (S [45, 95]))) (wCons (wC (.str (S [49]))) wNil)))))))))))))))
  (wRet (wOp2 gAdd (wVar 0) (wDat (wLst (wCons (wC (.str (S [10]))) (wCons (wC (.str (S [97, 10]))) (wCons (wDat (wLst (wCons (wC (.str (S [45]))) wNil))) (wCons (wC (.str (S [43]))) (wCons (wC (.str (S [120, 45, 66]))) (wCons (wC (.str (S [60, 62, 61]))) wNil)))))))))))
def F_law_no_keys : FS := runF 1 w_law_no_keys
def w_law_kind : WS := (wSeq (wSet 1 (wLoc (wLst (wCons (wTup (wCons (wC (.str (S [116, 101, 120, 116]))) (wCons (wIsX [("InvalidKeys", false)] (wVar 0)) wNil))) (wCons (wTup (wCons (wC (.str (S [99, 117, 114, 115, 111, 114, 115]))) (wCons (wIsX [("InvalidKeys", false)] (wVar 0)) wNil))) wNil)))))
  (wSeq (wSet 1 (wLoc (wOpL gAddL (wVar 1) (wDat (wLst (wCons (wTup (wCons (wC (.str (S [107, 101, 121, 115]))) (wCons (wIsX [("InvalidKeys", true)] (wVar 0)) wNil))) (wCons (wTup (wCons (wC (.str (S [108, 97, 121, 111, 117, 116]))) (wCons (wIsX [("InvalidKeys", false)] (wVar 0)) wNil))) wNil)))))))
  (wSeq (wSet 1 (wLoc (wOpL gAddL (wVar 1) (wDat (wLst (wCons (wTup (wCons (wC (.str (S [114, 117, 110, 115]))) (wCons (wIsX [("InvalidKeys", false)] (wVar 0)) wNil))) (wCons (wTup (wCons (wC (.str (S [105, 110, 100, 101, 120]))) (wCons (wIsX [("InvalidKeys", false)] (wVar 0)) wNil))) wNil)))))))
  (wSeq (wSet 1 (wLoc (wOpL gAddL (wVar 1) (wDat (wLst (wCons (wTup (wCons (wC (.str (S [109, 111, 118, 101, 115]))) (wCons (wIsX [("InvalidKeys", false)] (wVar 0)) wNil))) (wCons (wTup (wCons (wC (.str (S [102, 111, 114, 109]))) (wCons (wIsX [("InvalidKeys", false)] (wVar 0)) wNil))) wNil)))))))
  (wSeq (wSet 1 (wLoc (wOpL gAddL (wVar 1) (wDat (wLst (wCons (wTup (wCons (wC (.str (S [114, 111, 117, 110, 100, 115]))) (wCons (wIsX [("InvalidKeys", false)] (wVar 0)) wNil))) (wCons (wTup (wCons (wC (.str (S [101, 102, 102, 101, 99, 116]))) (wCons (wIsX [("InvalidKeys", false)] (wVar 0)) wNil))) wNil)))))))
  (wSeq (wSet 1 (wLoc (wOpL gAddL (wVar 1) (wDat (wLst (wCons (wTup (wCons (wC (.str (S [110, 111, 116, 32, 107, 101, 121, 115]))) (wCons (wIsX [("InvalidKeys", false)] (wVar 0)) wNil))) (wCons (wTup (wCons (wC (.str (S [110, 111, 116, 104, 105, 110, 103]))) (wCons (wIsX [("InvalidKeys", false)] (wVar 0)) wNil))) wNil)))))))
  (wSeq (wSet 1 (wLoc (wOpL gAddL (wVar 1) (wDat (wLst (wCons (wTup (wCons (wC (.str (S [115, 116, 97, 116, 101]))) (wCons (wIsX [("InvalidKeys", false)] (wVar 0)) wNil))) (wCons (wTup (wCons (wC (.str (S [109, 101, 101, 116]))) (wCons (wIsX [("InvalidKeys", false)] (wVar 0)) wNil))) wNil)))))))
  (wSeq (wDrop (wU uAppend (wVar 1) (wCons (wTup (wCons (wC (.str (S [108, 111, 110, 103]))) (wCons (wIsX [("InvalidKeys", false)] (wVar 0)) wNil))) wNil)))
  (wSeq (wSet 2 (wDat (wLc (.tp [3, 4]) (wIt (wVar 1)) (wTru (wVar 4)) (wVar 3) [3, 4])))
  (wSeq (wIfS (wOrT (wCmpT gNe (wB gLen (wCons (wVar 2) wNil)) (wC (.int 1))) (wOrT (wNotT (wTru (wIsX [("InvalidKeys", true)] (wVar 0)))) (wNotT (wTru (wIsX [("InvalidKeys", true)] (wVar 0)))))) (wRet (wC (.str (S [111, 100, 100])))) wNext)
  (wRet (wIf (wCmpT gEq (wVar 2) (wDat (wLst (wCons (wC (.str (S [108, 111, 110, 103]))) wNil)))) (wOp2 gAdd (wC (.str (S [108, 111, 110, 103, 32]))) (wB gRepr (wCons wNope wNil))) (wOp2 gIx (wVar 2) (wC (.int 0)))))))))))))))
def F_law_kind : FS := runF 5 w_law_kind
def w_law_asked : WS := (wSeq (wSet 3 (wC .none))
  (wSeq (wTry ["InvalidKeys"] 4 3 (wIfS (wCmpT gEq (wVar 0) (wC (.int 0))) (wDrop (wCall 1 F_reach_of (wCons (wVar 1) wNil))) (wIfS (wCmpT gEq (wVar 0) (wC (.int 1))) (wDrop (wCallK0 1 1 F_depth_of [0] (wCons (wVar 1) wNil))) (wIfS (wCmpT gEq (wVar 0) (wC (.int 2))) (wDrop (wCall 1 F_net_of (wCons (wVar 1) wNil))) (wIfS (wCmpT gEq (wVar 0) (wC (.int 3))) (wDrop (wCallK0 1 1 F_far_effect [0] (wCons (wVar 1) wNil))) (wIfS (wCmpT gEq (wVar 0) (wC (.int 4))) (wDrop (wCall 2 F_same_far (wCons (wVar 1) (wCons (wVar 2) wNil)))) (wDrop (wCallK0 2 2 F_same_far [1, 0] (wCons (wVar 1) (wCons (wVar 2) wNil))))))))))
  (wRet (wIf (wIsNo (wVar 3)) (wC (.str (S [110, 111, 110, 101]))) (wCall 1 F_law_kind (wCons (wVar 3) wNil))))))
def F_law_asked : FS := runF 5 w_law_asked
def w_law_right_k12 : WS := (wSeq (wPar [2, 3] (wCons (wCall 2 F_law_keys_v1 (wCons (wVar 0) (wCons (wC (.int 60)) wNil))) (wCons (wCall 2 F_law_keys_v1 (wCons (wVar 0) (wCons (wC (.int 8)) wNil))) wNil)))
  (wSeq (wSet 4 (wReprL (wCons (wVar 2) (wCons (wVar 1) wNil))))
  (wSeq (wIfS (wCmpT gNe (wDat (wLc (.nm 5) (wRng rng1 (wCons (wC (.int 6)) wNil)) wYes (wCall 3 F_law_asked (wCons (wVar 5) (wCons (wVar 2) (wCons (wVar 3) wNil)))) [5])) (wDat (wOpL gMulL (wDat (wLst (wCons (wC (.str (S [110, 111, 110, 101]))) wNil))) (wC (.int 6))))) (wRet (wC (.bool false))) wNext)
  (wSeq (wIfS (wCmpT gNe (wDat (wLc (.nm 5) (wRng rng1 (wCons (wC (.int 6)) wNil)) wYes (wCall 3 F_law_asked (wCons (wVar 5) (wCons (wVar 1) (wCons (wVar 3) wNil)))) [5])) (wDat (wOpL gMulL (wDat (wLst (wCons (wC (.str (S [107, 101, 121, 115]))) wNil))) (wC (.int 6))))) (wRet (wC (.bool false))) wNext)
  (wSeq (wIfS (wOrT (wCmpT gNe (wDat (wLc (.nm 5) (wIt (wDat (wLst (wCons (wC (.int 4)) (wCons (wC (.int 5)) wNil))))) wYes (wCall 3 F_law_asked (wCons (wVar 5) (wCons (wVar 2) (wCons (wVar 1) wNil)))) [5])) (wDat (wOpL gMulL (wDat (wLst (wCons (wC (.str (S [107, 101, 121, 115]))) wNil))) (wC (.int 2))))) (wCmpT gNe (wCall 3 F_law_asked (wCons (wC (.int 4)) (wCons (wVar 1) (wCons (wVar 1) wNil)))) (wC (.str (S [107, 101, 121, 115]))))) (wRet (wC (.bool false))) wNext)
  (wRet (wCmp gEq (wReprL (wCons (wVar 2) (wCons (wVar 1) wNil))) (wVar 4))))))))
def F_law_right_k12 : FS := runF 6 w_law_right_k12
def w_law_k12 : WS := (wSeq (wFor (.nm 1) (wRng rng1 (wCons (wB gMax (wCons (wC (.int 1)) (wCons (wB gMin (wCons (wC (.int 4)) (wCons (wScrLen (wVar 0)) wNil))) wNil))) wNil)) (wSeq (wSet 2 (wCall 1 F_law_source_v1 (wCons (wOp2 gAdd (wOp2 gMulC (wCall 2 F_law_cell (wCons (wVar 0) (wCons (wVar 1) wNil))) (wC (.int 3))) (wC (.int 12))) wNil)))
  (wSeq (wFor (.nm 3) (wIt (wCall 0 F_law_no_keys wNil)) (wIfS (wNotT (wTru (wCall 2 F_law_right_k12 (wCons (wVar 2) (wCons (wVar 3) wNil))))) (wRet (wC (.bool false))) wNext))
  (wFor (.nm 4) (wRng rng1 (wCons (wC (.int 6)) wNil)) (wSeq (wSet 5 (wCall 2 F_law_keys_v1 (wCons (wVar 2) (wCons (wC (.int 59)) wNil))))
  (wSeq (wSet 6 (wCall 2 F_law_draw_v2 (wCons (wVar 2) (wCons (wOp2 gAdd (wB gLen (wCons (wVar 5) wNil)) (wC (.int 1))) wNil))))
  (wSeq (wSet 7 (wOp2 gIx (wDat (wLst (wCons (wC (.str (S [65]))) (wCons (wC (.str (S [90]))) (wCons (wC (.str (S [32]))) (wCons (wC (.str (S [124]))) (wCons (wC (.str (S [10]))) (wCons (wC (.str (S [95]))) (wCons (wC (.str (S [43]))) (wCons (wC (.str (S [42]))) (wCons (wC (.str (S [61]))) (wCons (wC (.str (S [48]))) (wCons (wC (.str (S [55]))) (wCons (wC (.str (S [46]))) (wCons (wC (.str (S [126]))) wNil))))))))))))))) (wCall 2 F_law_draw_v2 (wCons (wVar 2) (wCons (wC (.int 13)) wNil)))))
  (wIfS (wNotT (wTru (wCall 2 F_law_right_k12 (wCons (wVar 2) (wCons (wOp2 gAdd (wOp2 gAdd (wSl gSl (wVar 5) wNo (wPart (wVar 6))) (wVar 7)) (wSl gSl (wVar 5) (wPart (wVar 6)) wNo)) wNil))))) (wRet (wC (.bool false))) wNext))))))))
  (wRet (wC (.bool true))))
def F_law_k12 : FS := runF 8 w_law_k12
def w_end_run : WS := (wSeq (wSet 3 (wLoc (wLstRg (wRg2 (wOp2 gSub (wC (.int 0)) (wVar 1)) (wC (.int 0))))))
  (wSeq (wSet 4 (wLoc (wLst3 (wCons (wOp2 gSub (wVar 2) (wC (.int 1))) (wCons (wOp1 gNeg (wC (.int 1))) (wCons (wOp1 gNeg (wC (.int 1))) wNil))))))
  (wSeq (wFor (.nm 5) (wIt (wVar 0)) (wIfS (wCmpT gIn (wVar 5) (wC (.str (S [45, 60])))) (wSeq (wSet 6 (wSl gSl (wVar 3) (wPart (wOp1 gNeg (wC (.int 1)))) wNo))
  (wSeq (wSet 3 (wLoc (wSlL gSlL (wVar 3) wNo (wPart (wOp1 gNeg (wC (.int 1)))))))
  (wIfS (wCmpT gEq (wVar 5) (wC (.str (S [60])))) (wDrop (wU uExtend (wVar 4) (wCons (wVar 6) wNil))) wNext))) (wIfS (wCmpT gIn (wVar 5) (wC (.str (S [35, 62])))) (wSeq (wSet 6 (wSl gSl (wVar 4) (wPart (wOp1 gNeg (wC (.int 1)))) wNo))
  (wSeq (wSet 4 (wLoc (wSlL gSlL (wVar 4) wNo (wPart (wOp1 gNeg (wC (.int 1)))))))
  (wIfS (wCmpT gEq (wVar 5) (wC (.str (S [62])))) (wDrop (wU uExtend (wVar 3) (wCons (wVar 6) wNil))) wNext))) (wDrop (wU uAppend (wVar 3) (wCons (wVar 5) wNil))))))
  (wRet (wTup (wCons (wVar 3) (wCons (wVar 4) wNil)))))))
def F_end_run : FS := runF 7 w_end_run
def w_difference : WS := (wSeq (wSet 2 (wB gMax (wCons (wDat (wLc (.nm 5) (wIt (wTup (wCons (wVar 0) (wCons (wVar 1) wNil)))) wYes (wB gSumA (wCons (wSl gSl (wCall 1 F_far_run (wCons (wVar 5) wNil)) wNo (wPart (wC (.int 2)))) wNil)) [5])) wNil)))
  (wSeq (wFor (.nm 3) (wRng rng1 (wCons (wOp2 gAdd (wOp2 gMul (wC (.int 2)) (wVar 2)) (wC (.int 1))) wNil)) (wFor (.nm 4) (wRng rng2 (wCons (wB gMax (wCons (wC (.int 0)) (wCons (wOp2 gSub (wVar 3) (wVar 2)) wNil))) (wCons (wOp2 gAdd (wB gMin (wCons (wVar 3) (wCons (wVar 2) wNil))) (wC (.int 1))) wNil))) (wIfS (wCmpT gNe (wCall 3 F_end_run (wCons (wVar 0) (wCons (wVar 4) (wCons (wOp2 gSub (wVar 3) (wVar 4)) wNil)))) (wCall 3 F_end_run (wCons (wVar 1) (wCons (wVar 4) (wCons (wOp2 gSub (wVar 3) (wVar 4)) wNil))))) (wRet (wTup (wCons (wVar 4) (wCons (wOp2 gSub (wVar 3) (wVar 4)) wNil)))) wNext)))
  (wRet (wC .none))))
def F_difference : FS := runF 6 w_difference
def w_first_difference : WS := (wSeq (wDrop (wCall 1 F_check_keys (wCons (wVar 0) wNil)))
  (wSeq (wDrop (wCall 1 F_check_keys (wCons (wVar 1) wNil)))
  (wRet (wCall 2 F_difference (wCons (wVar 0) (wCons (wVar 1) wNil))))))
def F_first_difference : FS := runF 2 w_first_difference
def w_law_difference : WS := (wSeq (wFor (.nm 3) (wRng rng1 (wCons (wOp2 gAdd (wVar 2) (wC (.int 1))) wNil)) (wFor (.nm 4) (wRng rng1 (wCons (wOp2 gAdd (wVar 3) (wC (.int 1))) wNil)) (wIfS (wCmpT gNe (wCall 3 F_law_pressed_v1 (wCons (wVar 0) (wCons (wVar 4) (wCons (wOp2 gSub (wVar 3) (wVar 4)) wNil)))) (wCall 3 F_law_pressed_v1 (wCons (wVar 1) (wCons (wVar 4) (wCons (wOp2 gSub (wVar 3) (wVar 4)) wNil))))) (wRet (wTup (wCons (wVar 4) (wCons (wOp2 gSub (wVar 3) (wVar 4)) wNil)))) wNext)))
  (wRet (wC .none)))
def F_law_difference : FS := runF 5 w_law_difference
def w_same_at_one : WS := (wSeq (wDrop (wCall 1 F_check_keys (wCons (wVar 0) wNil)))
  (wSeq (wDrop (wCall 1 F_check_keys (wCons (wVar 1) wNil)))
  (wRet (wCmp gIs (wCall 2 F_difference (wCons (wVar 0) (wCons (wVar 1) wNil))) (wC .none)))))
def F_same_at_one : FS := runF 2 w_same_at_one
def w_law_right_k13 : WS := (wSeq (wSet 2 (wCall 3 F_law_difference (wCons (wVar 0) (wCons (wVar 1) (wCons (wC (.int 10)) wNil)))))
  (wSeq (wSet 3 (wDat (wLst (wCons (wCall 2 F_first_difference (wCons (wVar 0) (wCons (wVar 1) wNil))) (wCons (wCallK0 2 2 F_first_difference [1, 0] (wCons (wVar 0) (wCons (wVar 1) wNil))) wNil)))))
  (wSeq (wSet 4 (wDat (wLst (wCons (wCall 2 F_same_at_one (wCons (wVar 0) (wCons (wVar 1) wNil))) (wCons (wCallK0 2 2 F_same_at_one [1, 0] (wCons (wVar 0) (wCons (wVar 1) wNil))) wNil)))))
  (wRet (wCmp gEq (wB gRepr (wCons (wDat (wLst (wCons (wVar 3) (wCons (wVar 4) wNil)))) wNil)) (wB gRepr (wCons (wDat (wLst (wCons (wDat (wLst (wCons (wVar 2) (wCons (wVar 2) wNil)))) (wCons (wDat (wLst (wCons (wCmp gIs (wVar 2) (wC .none)) (wCons (wCmp gIs (wVar 2) (wC .none)) wNil)))) wNil)))) wNil)))))))
def F_law_right_k13 : FS := runF 5 w_law_right_k13
def w_law_k13 : WS := (wSeq (wSet 1 (wCall 2 F_law_all_keys (wCons (wC (.str (S [97, 98, 45, 35, 60, 62]))) (wCons (wC (.int 1)) wNil))))
  (wSeq (wFor (.nm 2) (wIt (wVar 1)) (wIfS (wCmpT gNe (wDat (wLc (.nm 6) (wIt (wVar 1)) (wNotT (wTru (wCall 2 F_law_right_k13 (wCons (wVar 2) (wCons (wVar 6) wNil))))) (wVar 6) [6])) (wDat (wLst wNil))) (wRet (wC (.bool false))) wNext))
  (wSeq (wFor (.nm 3) (wRng rng1 (wCons (wB gMax (wCons (wC (.int 1)) (wCons (wB gMin (wCons (wC (.int 4)) (wCons (wScrLen (wVar 0)) wNil))) wNil))) wNil)) (wSeq (wSet 4 (wCall 1 F_law_source_v1 (wCons (wOp2 gAdd (wOp2 gMulC (wCall 2 F_law_cell (wCons (wVar 0) (wCons (wVar 3) wNil))) (wC (.int 3))) (wC (.int 13))) wNil)))
  (wFor (.nm 5) (wRng rng1 (wCons (wC (.int 12)) wNil)) (wSeq (wSet 2 (wCall 2 F_law_keys_v1 (wCons (wVar 4) (wCons (wC (.int 4)) wNil))))
  (wSeq (wSet 6 (wOp2 gIx (wDat (wLst (wCons (wCall 2 F_law_keys_v1 (wCons (wVar 4) (wCons (wC (.int 4)) wNil))) (wCons (wSl gSl (wCall 2 F_law_bent_v1 (wCons (wVar 4) (wCons (wVar 2) wNil))) wNo (wPart (wC (.int 4)))) wNil)))) (wOp2 gMod (wVar 5) (wC (.int 2)))))
  (wIfS (wNotT (wTru (wCall 2 F_law_right_k13 (wCons (wVar 2) (wCons (wVar 6) wNil))))) (wRet (wC (.bool false))) wNext))))))
  (wRet (wAndV (wCmp gEq (wCall 2 F_first_difference (wCons (wC (.str (S [60, 62]))) (wCons (wC (.str (S []))) wNil))) (wTup (wCons (wC (.int 0)) (wCons (wC (.int 1)) wNil)))) (wCmp gIs (wCall 2 F_first_difference (wCons (wC (.str (S [45, 120]))) (wCons (wC (.str (S [120, 60, 45, 62]))) wNil))) (wC .none)))))))
def F_law_k13 : FS := runF 7 w_law_k13
def w_law_wide : WS := (wRet (wB gSumA (wCons (wCall 1 F_law_touched (wCons (wVar 0) wNil)) wNil)))
def F_law_wide : FS := runF 1 w_law_wide
def w_law_right_k14 : WS := (wSeq (wSet 3 (wCall 2 F_first_difference (wCons (wVar 1) (wCons (wVar 2) wNil))))
  (wSeq (wIfS (wCmpT gNe (wB gRepr (wCons (wCall 2 F_same_at_one (wCons (wVar 1) (wCons (wVar 2) wNil))) wNil)) (wB gRepr (wCons (wCmp gIs (wVar 3) (wC .none)) wNil))) (wRet (wC (.bool false))) wNext)
  (wSeq (wIfS (wCmpT gIsNot (wVar 3) (wC .none)) (wIfS (wCmpT gNe (wCall 3 F_law_difference (wCons (wVar 1) (wCons (wVar 2) (wCons (wB gSumA (wCons (wVar 3) wNil)) wNil)))) (wVar 3)) (wRet (wC (.bool false))) wNext) wNext)
  (wSeq (wSet 4 (wB gMax (wCons (wCall 1 F_law_wide (wCons (wVar 1) wNil)) (wCons (wCall 1 F_law_wide (wCons (wVar 2) wNil)) wNil))))
  (wSeq (wFor (.nm 5) (wRng rng1 (wCons (wC (.int 4)) wNil)) (wSeq (wPar [6, 7] (wCons (wCall 2 F_law_draw_v2 (wCons (wVar 0) (wCons (wOp2 gAdd (wVar 4) (wC (.int 4))) wNil))) (wCons (wCall 2 F_law_draw_v2 (wCons (wVar 0) (wCons (wOp2 gAdd (wVar 4) (wC (.int 4))) wNil))) wNil)))
  (wSeq (wSet 8 (wCmp gNe (wCall 3 F_law_pressed_v1 (wCons (wVar 1) (wCons (wVar 6) (wCons (wVar 7) wNil)))) (wCall 3 F_law_pressed_v1 (wCons (wVar 2) (wCons (wVar 6) (wCons (wVar 7) wNil))))))
  (wSeq (wPar [9, 10] (wCons (wB gMin (wCons (wVar 6) (wCons (wVar 4) wNil))) (wCons (wB gMin (wCons (wVar 7) (wCons (wVar 4) wNil))) wNil)))
  (wSeq (wSet 11 (wCmp gNe (wCall 3 F_law_pressed_v1 (wCons (wVar 1) (wCons (wVar 9) (wCons (wVar 10) wNil)))) (wCall 3 F_law_pressed_v1 (wCons (wVar 2) (wCons (wVar 9) (wCons (wVar 10) wNil))))))
  (wIfS (wOrT (wCmpT gNe (wVar 8) (wVar 11)) (wAndT (wTru (wVar 8)) (wCmpT gIs (wVar 3) (wC .none)))) (wRet (wC (.bool false))) wNext))))))
  (wRet (wC (.bool true))))))))
def F_law_right_k14 : FS := runF 12 w_law_right_k14
def w_law_far_right : WS := (wSeq (wPar [1, 2] (wCons (wCall 2 F_law_draw_v2 (wCons (wVar 0) (wCons (wC (.int 2)) wNil))) (wCons (wCall 2 F_law_draw_v2 (wCons (wVar 0) (wCons (wC (.int 23)) wNil))) wNil)))
  (wSeq (wSet 3 (wOp2 gIx (wDat (wLst (wCons (wC (.str (S [60, 45]))) (wCons (wC (.str (S [62, 35]))) wNil)))) (wVar 1)))
  (wSeq (wSet 4 (wM "str" mJoin (wC (.str (S []))) (wCons (wDat (wLc (.nm 8) (wRng rng1 (wCons (wVar 2) wNil)) wYes (wOp2 gIx (wVar 3) (wCall 2 F_law_draw_v2 (wCons (wVar 0) (wCons (wC (.int 2)) wNil)))) [8])) wNil)))
  (wSeq (wSet 5 (wOp2 gAdd (wVar 4) (wOp2 gIx (wVar 3) (wCall 2 F_law_draw_v2 (wCons (wVar 0) (wCons (wC (.int 2)) wNil))))))
  (wSeq (wSet 6 (wOp2 gIx (wDat (wLst (wCons (wTup (wCons (wOp2 gAdd (wVar 2) (wC (.int 1))) (wCons (wC (.int 0)) wNil))) (wCons (wTup (wCons (wC (.int 0)) (wCons (wOp2 gAdd (wVar 2) (wC (.int 1))) wNil))) wNil)))) (wVar 1)))
  (wSeq (wSet 7 (wDat (wLst (wCons (wCall 2 F_first_difference (wCons (wOp2 gAdd (wVar 4) (wC (.str (S [120])))) (wCons (wOp2 gAdd (wVar 5) (wC (.str (S [120])))) wNil))) (wCons (wCallK0 2 2 F_first_difference [1, 0] (wCons (wOp2 gAdd (wVar 4) (wC (.str (S [120])))) (wCons (wOp2 gAdd (wVar 5) (wC (.str (S [120])))) wNil))) wNil)))))
  (wRet (wAndV (wCmp gEq (wVar 7) (wDat (wLst (wCons (wVar 6) (wCons (wVar 6) wNil))))) (wNotV (wCall 2 F_same_at_one (wCons (wOp2 gAdd (wVar 4) (wC (.str (S [120])))) (wCons (wOp2 gAdd (wVar 5) (wC (.str (S [120])))) wNil))))))))))))
def F_law_far_right : FS := runF 9 w_law_far_right
def w_law_k14 : WS := (wSeq (wFor (.nm 1) (wRng rng1 (wCons (wB gMax (wCons (wC (.int 1)) (wCons (wB gMin (wCons (wC (.int 3)) (wCons (wScrLen (wVar 0)) wNil))) wNil))) wNil)) (wSeq (wSet 2 (wCall 1 F_law_source_v1 (wCons (wOp2 gAdd (wOp2 gMulC (wCall 2 F_law_cell (wCons (wVar 0) (wCons (wVar 1) wNil))) (wC (.int 3))) (wC (.int 14))) wNil)))
  (wFor (.nm 3) (wRng rng1 (wCons (wC (.int 4)) wNil)) (wSeq (wIfS (wAndT (wCmpT gLt (wVar 3) (wC (.int 2))) (wNotT (wTru (wCall 1 F_law_far_right (wCons (wVar 2) wNil))))) (wRet (wC (.bool false))) wNext)
  (wSeq (wSet 4 (wCall 2 F_law_keys_v1 (wCons (wVar 2) (wCons (wOp2 gIx (wDat (wLst (wCons (wC (.int 5)) (wCons (wC (.int 10)) (wCons (wC (.int 5)) (wCons (wC (.int 22)) wNil)))))) (wVar 3)) wNil))))
  (wSeq (wSet 5 (wCall 2 F_law_bent_v1 (wCons (wVar 2) (wCons (wVar 4) wNil))))
  (wSeq (wIfS (wNotT (wTru (wCall 3 F_law_right_k14 (wCons (wVar 2) (wCons (wVar 4) (wCons (wVar 5) wNil)))))) (wRet (wC (.bool false))) wNext)
  (wSeq (wSet 6 (wCall 3 F_law_alike (wCons (wVar 2) (wCons (wSl gSl (wVar 4) wNo (wPart (wC (.int 6)))) (wCons (wC (.int 1)) wNil)))))
  (wSeq (wIfS (wNotT (wTru (wCall 3 F_law_right_k14 (wCons (wVar 2) (wCons (wSl gSl (wVar 4) wNo (wPart (wC (.int 6)))) (wCons (wVar 6) wNil)))))) (wRet (wC (.bool false))) wNext)
  (wIfS (wCmpT gIsNot (wCall 2 F_first_difference (wCons (wCall 3 F_law_alike (wCons (wVar 2) (wCons (wC (.str (S [60, 45]))) (wCons (wC (.int 3)) wNil)))) (wCons (wC (.str (S [60, 45]))) wNil))) (wC .none)) (wRet (wC (.bool false))) wNext))))))))))
  (wRet (wAndV (wCmp gIs (wCall 2 F_same_at_one (wCons (wC (.str (S [120, 60, 45, 35]))) (wCons (wC (.str (S []))) wNil))) (wC (.bool false))) (wCmp gEq (wCall 2 F_first_difference (wCons (wC (.str (S [60, 60, 62, 62, 62]))) (wCons (wC (.str (S [62]))) wNil))) (wTup (wCons (wC (.int 0)) (wCons (wC (.int 2)) wNil)))))))
def F_law_k14 : FS := runF 7 w_law_k14
def w_law_right_k15 : WS := (wSeq (wPar [2, 3] (wCons (wCall 3 F_law_alike (wCons (wVar 0) (wCons (wVar 1) (wCons (wC (.int 1)) wNil)))) (wCons (wCall 3 F_law_alike (wCons (wVar 0) (wCons (wVar 1) (wCons (wC (.int 1)) wNil)))) wNil)))
  (wSeq (wIfS (wOrT (wNotT (wTru (wCall 2 F_same_at_one (wCons (wVar 1) (wCons (wVar 2) wNil))))) (wOrT (wNotT (wTru (wCall 2 F_same_at_one (wCons (wVar 2) (wCons (wVar 3) wNil))))) (wNotT (wTru (wCall 2 F_same_far (wCons (wVar 2) (wCons (wVar 3) wNil))))))) (wRet (wC (.bool false))) wNext)
  (wSeq (wIfS (wCmpT gNe (wCall 1 F_net_of (wCons (wVar 1) wNil)) (wCall 1 F_net_of (wCons (wVar 2) wNil))) (wRet (wC (.bool false))) wNext)
  (wSeq (wPar [4, 5] (wCons (wCall 2 F_law_keys_v1 (wCons (wVar 0) (wCons (wC (.int 4)) wNil))) (wCons (wCall 2 F_law_keys_v1 (wCons (wVar 0) (wCons (wC (.int 4)) wNil))) wNil)))
  (wSeq (wIfS (wNotT (wTru (wCall 2 F_same_at_one (wCons (wOp2 gAdd (wOp2 gAdd (wVar 4) (wVar 1)) (wVar 5)) (wCons (wOp2 gAdd (wOp2 gAdd (wVar 4) (wVar 2)) (wVar 5)) wNil))))) (wRet (wC (.bool false))) wNext)
  (wSeq (wSet 6 (wCall 2 F_law_bent_v1 (wCons (wVar 0) (wCons (wVar 1) wNil))))
  (wSeq (wSet 7 (wCall 2 F_first_difference (wCons (wVar 1) (wCons (wVar 6) wNil))))
  (wSeq (wIfS (wOrT (wCmpT gNe (wCall 2 F_first_difference (wCons (wVar 2) (wCons (wVar 6) wNil))) (wVar 7)) (wCmpT gNe (wCall 2 F_first_difference (wCons (wVar 1) (wCons (wCall 3 F_law_alike (wCons (wVar 0) (wCons (wVar 6) (wCons (wC (.int 1)) wNil)))) wNil))) (wVar 7))) (wRet (wC (.bool false))) wNext)
  (wRet (wOrV (wCmp gIsNot (wVar 7) (wC .none)) (wCall 2 F_same_far (wCons (wVar 1) (wCons (wVar 6) wNil)))))))))))))
def F_law_right_k15 : FS := runF 8 w_law_right_k15
def w_law_k15 : WS := (wSeq (wFor (.nm 1) (wRng rng1 (wCons (wB gMax (wCons (wC (.int 1)) (wCons (wB gMin (wCons (wC (.int 3)) (wCons (wScrLen (wVar 0)) wNil))) wNil))) wNil)) (wSeq (wSet 2 (wCall 1 F_law_source_v1 (wCons (wOp2 gAdd (wOp2 gMulC (wCall 2 F_law_cell (wCons (wVar 0) (wCons (wVar 1) wNil))) (wC (.int 3))) (wC (.int 15))) wNil)))
  (wFor (.nm 3) (wRng rng1 (wCons (wC (.int 3)) wNil)) (wIfS (wNotT (wTru (wCall 2 F_law_right_k15 (wCons (wVar 2) (wCons (wCall 2 F_law_keys_v1 (wCons (wVar 2) (wCons (wOp2 gIx (wDat (wLst (wCons (wC (.int 3)) (wCons (wC (.int 6)) wNil)))) (wOp2 gMod (wVar 3) (wC (.int 2)))) wNil))) wNil))))) (wRet (wC (.bool false))) wNext))))
  (wRet (wAndV (wCall 2 F_same_at_one (wCons (wC (.str (S []))) (wCons (wC (.str (S []))) wNil))) (wNotV (wCall 2 F_same_at_one (wCons (wC (.str (S [60, 62]))) (wCons (wC (.str (S []))) wNil)))))))
def F_law_k15 : FS := runF 4 w_law_k15
def w_law_asked_v1 : WS := (wSeq (wSet 3 (wC .none))
  (wSeq (wTry ["InvalidKeys"] 4 3 (wIfS (wCmpT gEq (wVar 0) (wC (.int 0))) (wDrop (wCall 2 F_same_at_one (wCons (wVar 1) (wCons (wVar 2) wNil)))) (wIfS (wCmpT gEq (wVar 0) (wC (.int 1))) (wDrop (wCallK0 2 2 F_same_at_one [1, 0] (wCons (wVar 2) (wCons (wVar 1) wNil)))) (wIfS (wCmpT gEq (wVar 0) (wC (.int 2))) (wDrop (wCall 2 F_first_difference (wCons (wVar 1) (wCons (wVar 2) wNil)))) (wDrop (wCallK0 2 2 F_first_difference [1, 0] (wCons (wVar 2) (wCons (wVar 1) wNil))))))))
  (wRet (wIf (wIsNo (wVar 3)) (wC (.str (S [110, 111, 110, 101]))) (wCall 1 F_law_kind (wCons (wVar 3) wNil))))))
def F_law_asked_v1 : FS := runF 5 w_law_asked_v1
def w_law_right_k16 : WS := (wSeq (wPar [2, 3] (wCons (wCall 2 F_law_keys_v1 (wCons (wVar 0) (wCons (wC (.int 5)) wNil))) (wCons (wCall 2 F_law_keys_v1 (wCons (wVar 0) (wCons (wC (.int 5)) wNil))) wNil)))
  (wSeq (wSet 4 (wReprL (wCons (wVar 2) (wCons (wVar 1) wNil))))
  (wSeq (wSet 5 (wCall 2 F_law_draw_v2 (wCons (wVar 0) (wCons (wC (.int 4)) wNil))))
  (wSeq (wIfS (wCmpT gNe (wCall 3 F_law_asked_v1 (wCons (wVar 5) (wCons (wVar 2) (wCons (wVar 3) wNil)))) (wC (.str (S [110, 111, 110, 101])))) (wRet (wC (.bool false))) wNext)
  (wSeq (wFor (.tp [6, 7]) (wIt (wDat (wLst (wCons (wTup (wCons (wVar 1) (wCons (wVar 3) wNil))) (wCons (wTup (wCons (wVar 2) (wCons (wVar 1) wNil))) (wCons (wTup (wCons (wVar 1) (wCons (wVar 1) wNil))) wNil)))))) (wIfS (wCmpT gNe (wDat (wLc (.nm 8) (wRng rng1 (wCons (wC (.int 4)) wNil)) wYes (wCall 3 F_law_asked_v1 (wCons (wVar 8) (wCons (wVar 6) (wCons (wVar 7) wNil)))) [8])) (wDat (wOpL gMulL (wDat (wLst (wCons (wC (.str (S [107, 101, 121, 115]))) wNil))) (wC (.int 4))))) (wRet (wC (.bool false))) wNext))
  (wRet (wCmp gEq (wReprL (wCons (wVar 2) (wCons (wVar 1) wNil))) (wVar 4))))))))
def F_law_right_k16 : FS := runF 9 w_law_right_k16
def w_law_k16 : WS := (wSeq (wFor (.nm 1) (wRng rng1 (wCons (wB gMax (wCons (wC (.int 1)) (wCons (wB gMin (wCons (wC (.int 4)) (wCons (wScrLen (wVar 0)) wNil))) wNil))) wNil)) (wSeq (wSet 2 (wCall 1 F_law_source_v1 (wCons (wOp2 gAdd (wOp2 gMulC (wCall 2 F_law_cell (wCons (wVar 0) (wCons (wVar 1) wNil))) (wC (.int 3))) (wC (.int 16))) wNil)))
  (wSeq (wFor (.nm 3) (wIt (wCall 0 F_law_no_keys wNil)) (wIfS (wNotT (wTru (wCall 2 F_law_right_k16 (wCons (wVar 2) (wCons (wVar 3) wNil))))) (wRet (wC (.bool false))) wNext))
  (wFor (.nm 4) (wRng rng1 (wCons (wC (.int 6)) wNil)) (wSeq (wSet 5 (wCall 2 F_law_keys_v1 (wCons (wVar 2) (wCons (wC (.int 20)) wNil))))
  (wSeq (wSet 6 (wCall 2 F_law_draw_v2 (wCons (wVar 2) (wCons (wOp2 gAdd (wB gLen (wCons (wVar 5) wNil)) (wC (.int 1))) wNil))))
  (wSeq (wSet 7 (wOp2 gIx (wDat (wLst (wCons (wC (.str (S [65]))) (wCons (wC (.str (S [90]))) (wCons (wC (.str (S [32]))) (wCons (wC (.str (S [124]))) (wCons (wC (.str (S [10]))) (wCons (wC (.str (S [95]))) (wCons (wC (.str (S [43]))) (wCons (wC (.str (S [42]))) (wCons (wC (.str (S [61]))) (wCons (wC (.str (S [48]))) (wCons (wC (.str (S [55]))) (wCons (wC (.str (S [46]))) (wCons (wC (.str (S [126]))) wNil))))))))))))))) (wCall 2 F_law_draw_v2 (wCons (wVar 2) (wCons (wC (.int 13)) wNil)))))
  (wIfS (wNotT (wTru (wCall 2 F_law_right_k16 (wCons (wVar 2) (wCons (wOp2 gAdd (wOp2 gAdd (wSl gSl (wVar 5) wNo (wPart (wVar 6))) (wVar 7)) (wSl gSl (wVar 5) (wPart (wVar 6)) wNo)) wNil))))) (wRet (wC (.bool false))) wNext))))))))
  (wRet (wC (.bool true))))
def F_law_k16 : FS := runF 8 w_law_k16
def w_law_same_v1 (G : FS) : WS := (wSeq (wIfS (wTru (wIsi2 "list" "tuple" (wVar 1))) (wSeq (wIfS (wOrT (wCmpT gNe (wIsi "list" (wVar 0)) (wIsi "list" (wVar 1))) (wNotT (wTru (wIsi2 "list" "tuple" (wVar 0))))) (wRet (wC (.bool false))) wNext)
  (wSeq (wIfS (wCmpT gNe (wB gLen (wCons (wVar 0) wNil)) (wB gLen (wCons (wVar 1) wNil))) (wRet (wC (.bool false))) wNext)
  (wRet (wB gAll (wCons (wDat (wLc (.nm 2) (wRng rng1 (wCons (wB gLen (wCons (wVar 1) wNil)) wNil)) wYes (wCall 2 G (wCons (wOp2 gIx (wVar 0) (wVar 2)) (wCons (wOp2 gIx (wVar 1) (wVar 2)) wNil))) [2])) wNil))))) wNext)
  (wSeq (wIfS (wOrT (wCmpT gIs (wVar 1) (wC .none)) (wCmpT gIs (wVar 0) (wC .none))) (wRet (wAndV (wCmp gIs (wVar 1) (wC .none)) (wCmp gIs (wVar 0) (wC .none)))) wNext)
  (wSeq (wIfS (wOrT (wTru (wIsi "bool" (wVar 1))) (wTru (wIsi "bool" (wVar 0)))) (wRet (wAndV (wIsi "bool" (wVar 1)) (wAndV (wIsi "bool" (wVar 0)) (wCmp gEq (wVar 0) (wVar 1))))) wNext)
  (wRet (wCmp gEq (wVar 0) (wVar 1))))))
def F_law_same_v1 : Nat → FS
  | 0 => fun _ _ _ _ => False
  | n + 1 => runF 3 (w_law_same_v1 (F_law_same_v1 n))
def w_law_bag : WS := (wRet (wLoc (wLst (wCons (wB gMax (wCons (wC (.int 0)) (wCons (wOp2 gSub (wVar 0) (wOp2 gPow (wC (.int 10)) (wC (.int 18)))) wNil))) (wCons (wOp2 gAdd (wOp2 gMod (wVar 0) (wC (.int 162259276829213363391578010288127))) (wOp2 gMul (wC (.int 6469)) (wOp2 gAdd (wVar 1) (wC (.int 1))))) (wCons (wC (.int 0)) wNil))))))
def F_law_bag : FS := runF 2 w_law_bag
def w_check_still : WS := (wSeq (wDrop (wCall 1 F_check_keys (wCons (wVar 0) wNil)))
  (wIfS (wTru (wB gAny (wCons (wDat (wLc (.nm 1) (wIt (wVar 0)) wYes (wCmp gIn (wVar 1) (wC (.tuple [.str (S [60]), .str (S [62])]))) [1])) wNil))) (wRaise "HasMoves") wNext))
def F_check_still : FS := runF 2 w_check_still
def w_form_from : WS := (wSeq (wPar [1, 2, 3, 4] (wCons (wC (.int 0)) (wCons (wC (.str (S []))) (wCons (wC (.int 0)) (wCons (wC (.int 0)) wNil)))))
  (wSeq (wSet 5 (wC (.int 0)))
  (wSeq (wFor (.nm 6) (wIt (wVar 0)) (wIfS (wCmpT gIn (wVar 6) (wC (.str cLow))) (wSeq (wAug gIAdd 2 (wVar 6))
  (wAug gSub 5 (wC (.int 1)))) (wSeq (wAug gIAdd 5 (wC (.int 1)))
  (wSeq (wSet 4 (wB gMax (wCons (wVar 4) (wCons (wVar 5) wNil))))
  (wIfS (wCmpT gEq (wVar 6) (wC (.str (S [35])))) (wAug gIAdd 3 (wC (.int 1))) (wIfS (wCmpT gEq (wVar 2) (wC (.str (S [])))) (wAug gIAdd 1 (wC (.int 1))) (wSet 2 (wSl gSl (wVar 2) wNo (wPart (wOp1 gNeg (wC (.int 1))))))))))))
  (wRet (wTup (wCons (wVar 1) (wCons (wVar 2) (wCons (wVar 3) (wCons (wVar 4) wNil)))))))))
def F_form_from : FS := runF 7 w_form_from
def w_form_of : WS := (wSeq (wDrop (wCall 1 F_check_still (wCons (wVar 0) wNil)))
  (wRet (wCall 1 F_form_from (wCons (wVar 0) wNil))))
def F_form_of : FS := runF 1 w_form_of
def w_law_take : WS := (wSeq (wIfS (wCmpT gGt (wOp2 gIx (wVar 0) (wC (.int 0))) (wC (.int 1))) (wSeq (wSet 2 (wOp2 gMod (wOp2 gIx (wVar 0) (wC (.int 0))) (wVar 1)))
  (wSeq (wSetI (wVar 0) (wC (.int 0)) (wOp2 gDiv (wOp2 gIx (wVar 0) (wC (.int 0))) (wVar 1)))
  (wRet (wVar 2)))) wNext)
  (wSeq (wSetI (wVar 0) (wC (.int 2)) (wOp2 gAdd (wOp2 gIx (wVar 0) (wC (.int 2))) (wC (.int 1))))
  (wSeq (wSet 3 (wOp2 gMod (wOp2 gPow (wOp2 gAdd (wOp2 gIx (wVar 0) (wC (.int 1))) (wOp2 gMul (wC (.int 1300223)) (wOp2 gIx (wVar 0) (wC (.int 2))))) (wC (.int 3))) (wC (.int 162259276829213363391578010288127))))
  (wSeq (wSet 3 (wOp2 gMod (wOp2 gPow (wOp2 gAdd (wVar 3) (wOp2 gMul (wC (.int 15486253)) (wOp2 gIx (wVar 0) (wC (.int 2))))) (wC (.int 5))) (wC (.int 618970019642690137449562111))))
  (wRet (wOp2 gMod (wOp2 gDiv (wVar 3) (wC (.int 1048576))) (wVar 1)))))))
def F_law_take : FS := runF 4 w_law_take
def w_law_still : WS := (wSeq (wPar [2, 3] (wCons (wCall 2 F_law_take (wCons (wVar 0) (wCons (wC (.int 4)) wNil))) (wCons (wC (.str (S []))) wNil)))
  (wSeq (wFor (.nm 4) (wRng rng1 (wCons (wCall 2 F_law_take (wCons (wVar 0) (wCons (wOp2 gAdd (wVar 1) (wC (.int 1))) wNil))) wNil)) (wSeq (wSet 5 (wOp2 gIx (wDat (wLst (wCons (wC (.str (S [97, 98, 45, 35]))) (wCons (wC (.str (S [97, 98, 120, 121, 122, 45, 35]))) (wCons (wC (.str (S [120, 45, 45, 35, 35]))) (wCons (wC (.str (S [97, 113, 45, 35, 35, 45, 45, 35, 35]))) wNil)))))) (wVar 2)))
  (wSet 3 (wOp2 gAdd (wVar 3) (wOp2 gIx (wVar 5) (wCall 2 F_law_take (wCons (wVar 0) (wCons (wB gLen (wCons (wVar 5) wNil)) wNil))))))))
  (wRet (wVar 3))))
def F_law_still : FS := runF 6 w_law_still
def w_law_form : WS := (wSeq (wPar [1, 2, 3, 4] (wCons (wLoc (wLstRg (wRg1 (wC (.int 70))))) (wCons (wLoc (wLstRg (wRg2 (wC (.int 70)) (wC (.int 140))))) (wCons (wC (.int 0)) (wCons (wC (.int 0)) wNil)))))
  (wSeq (wFor (.nm 5) (wIt (wVar 0)) (wSeq (wIfS (wCmpT gEq (wVar 5) (wC (.str (S [45])))) (wDrop (wU0 uPop (wVar 1))) (wIfS (wCmpT gEq (wVar 5) (wC (.str (S [35])))) (wDrop (wU uPop (wVar 2) (wCons (wC (.int 0)) wNil))) (wDrop (wU uAppend (wVar 1) (wCons (wVar 5) wNil)))))
  (wSeq (wSet 4 (wOp2 gAdd (wVar 4) (wOp2 gIx (wDat (wLst (wCons (wOp1 gNeg (wC (.int 1))) (wCons (wC (.int 1)) wNil)))) (wB gInt (wCons (wCmp gIn (wVar 5) (wC (.str (S [45, 35])))) wNil)))))
  (wSet 3 (wB gMax (wCons (wVar 3) (wCons (wVar 4) wNil)))))))
  (wSeq (wSet 6 (wDat (wLc (.nm 8) (wIt (wVar 1)) (wTru (wIsi "int" (wVar 8))) (wVar 8) [8])))
  (wSeq (wSet 7 (wM "str" mJoin (wC (.str (S []))) (wCons (wDat (wLc (.nm 8) (wIt (wVar 1)) (wTru (wIsi "str" (wVar 8))) (wVar 8) [8])) wNil)))
  (wRet (wTup (wCons (wOp2 gSub (wC (.int 70)) (wB gLen (wCons (wVar 6) wNil))) (wCons (wVar 7) (wCons (wOp2 gSub (wC (.int 70)) (wB gLen (wCons (wVar 2) wNil))) (wCons (wVar 3) wNil))))))))))
def F_law_form : FS := runF 9 w_law_form
def w_law_k17 : WS := (wSeq (wFor (.nm 1) (wRng rng1 (wCons (wB gMax (wCons (wC (.int 1)) (wCons (wB gMin (wCons (wC (.int 8)) (wCons (wScrLen (wVar 0)) wNil))) wNil))) wNil)) (wSeq (wSet 2 (wCall 2 F_law_bag (wCons (wCall 2 F_law_cell_at (wCons (wVar 0) (wCons (wVar 1) wNil))) (wCons (wVar 1) wNil))))
  (wFor (.nm 3) (wRng rng1 (wCons (wC (.int 8)) wNil)) (wSeq (wSet 4 (wCall 2 F_law_still (wCons (wVar 2) (wCons (wOp2 gIx (wDat (wLst (wCons (wC (.int 4)) (wCons (wC (.int 12)) (wCons (wC (.int 60)) wNil))))) (wOp2 gMod (wVar 3) (wC (.int 3)))) wNil))))
  (wSeq (wSet 5 (wCall 1 F_law_form (wCons (wVar 4) wNil)))
  (wIfS (wNotT (wTru (wCall 2 (F_law_same_v1 8) (wCons (wDat (wLst (wCons (wCall 1 F_form_of (wCons (wVar 4) wNil)) (wCons (wCallK0 1 1 F_form_of [0] (wCons (wVar 4) wNil)) (wCons (wCall 1 F_form_of (wCons (wVar 4) wNil)) wNil))))) (wCons (wDat (wOpL gMulL (wDat (wLst (wCons (wVar 5) wNil))) (wC (.int 3)))) wNil))))) (wRet (wC (.bool false))) wNext))))))
  (wSeq (wSet 6 (wDat (wLst (wCons (wCall 1 F_form_of (wCons (wC (.str (S []))) wNil)) (wCons (wCall 1 F_form_of (wCons (wOp2 gMul (wC (.str (S [45]))) (wC (.int 60))) wNil)) (wCons (wCall 1 F_form_of (wCons (wOp2 gMul (wC (.str (S [35]))) (wC (.int 60))) wNil)) (wCons (wCall 1 F_form_of (wCons (wOp2 gMul (wC (.str (S [120]))) (wC (.int 60))) wNil)) (wCons (wCall 1 F_form_of (wCons (wC (.str (S [120, 120, 35, 45]))) wNil)) wNil))))))))
  (wRet (wCall 2 (F_law_same_v1 8) (wCons (wVar 6) (wCons (wDat (wLst (wCons (wTup (wCons (wC (.int 0)) (wCons (wC (.str (S []))) (wCons (wC (.int 0)) (wCons (wC (.int 0)) wNil))))) (wCons (wTup (wCons (wC (.int 60)) (wCons (wC (.str (S []))) (wCons (wC (.int 0)) (wCons (wC (.int 60)) wNil))))) (wCons (wTup (wCons (wC (.int 0)) (wCons (wC (.str (S []))) (wCons (wC (.int 60)) (wCons (wC (.int 60)) wNil))))) (wCons (wTup (wCons (wC (.int 0)) (wCons (wOp2 gMul (wC (.str (S [120]))) (wC (.int 60))) (wCons (wC (.int 0)) (wCons (wC (.int 0)) wNil))))) (wCons (wTup (wCons (wC (.int 0)) (wCons (wC (.str (S [120]))) (wCons (wC (.int 1)) (wCons (wC (.int 0)) wNil))))) wNil))))))) wNil))))))
def F_law_k17 : FS := runF 7 w_law_k17
def w_is_form : WS := (wSeq (wIfS (wOrT (wNotT (wTru (wIsi "tuple" (wVar 0)))) (wCmpT gNe (wB gLen (wCons (wVar 0) wNil)) (wC (.int 4)))) (wRet (wC (.bool false))) wNext)
  (wSeq (wUnp [1, 2, 3, 4] (wVar 0))
  (wSeq (wIfS (wNotT (wTru (wB gAll (wCons (wDat (wLc (.nm 5) (wIt (wTup (wCons (wVar 1) (wCons (wVar 3) (wCons (wVar 4) wNil))))) wYes (wCall 3 F_is_integer (wCons (wVar 5) (wCons (wC (.int 0)) (wCons (wC .none) wNil)))) [5])) wNil)))) (wRet (wC (.bool false))) wNext)
  (wSeq (wIfS (wOrT (wNotT (wTru (wIsi "str" (wVar 2)))) (wNotT (wTru (wB gAll (wCons (wDat (wLc (.nm 6) (wIt (wVar 2)) wYes (wCmp gIn (wVar 6) (wC (.str cLow))) [6])) wNil))))) (wRet (wC (.bool false))) wNext)
  (wRet (wChain gLe gLe (wB gMax (wCons (wVar 1) (wCons (wOp2 gSub (wOp2 gAdd (wVar 3) (wVar 1)) (wB gLen (wCons (wVar 2) wNil))) wNil))) (wVar 4) (wOp2 gAdd (wVar 3) (wVar 1))))))))
def F_is_form : FS := runF 7 w_is_form
def w_check_form : WS := (wIfS (wNotT (wTru (wCall 1 F_is_form (wCons (wVar 0) wNil)))) (wRaise "InvalidForm") wNext)
def F_check_form : FS := runF 1 w_check_form
def w_joined_two : WS := (wSeq (wUnp [2, 3, 4, 5] (wVar 0))
  (wSeq (wUnp [6, 7, 8, 9] (wVar 1))
  (wSeq (wSet 10 (wOp2 gSub (wOp2 gAdd (wVar 2) (wVar 4)) (wB gLen (wCons (wVar 3) wNil))))
  (wRet (wTup (wCons (wOp2 gAdd (wVar 2) (wB gMax (wCons (wC (.int 0)) (wCons (wOp2 gSub (wVar 6) (wB gLen (wCons (wVar 3) wNil))) wNil)))) (wCons (wOp2 gAdd (wSl gSl (wVar 3) wNo (wPart (wB gMax (wCons (wC (.int 0)) (wCons (wOp2 gSub (wB gLen (wCons (wVar 3) wNil)) (wVar 6)) wNil))))) (wVar 7)) (wCons (wOp2 gAdd (wVar 4) (wVar 8)) (wCons (wB gMax (wCons (wVar 5) (wCons (wOp2 gAdd (wVar 10) (wVar 9)) wNil))) wNil)))))))))
def F_joined_two : FS := runF 11 w_joined_two
def w_law_great : WS := (wSeq (wUnpL [1, 2] (wDat (wLc (.nm 6) (wRng rng1 (wCons (wC (.int 2)) wNil)) wYes (wOp2 gIx (wDat (wLst (wCons (wCall 2 F_law_take (wCons (wVar 0) (wCons (wC (.int 4)) wNil))) (wCons (wCall 2 F_law_take (wCons (wVar 0) (wCons (wOp2 gPow (wC (.int 10)) (wC (.int 39))) wNil))) wNil)))) (wCall 2 F_law_take (wCons (wVar 0) (wCons (wC (.int 2)) wNil)))) [6])))
  (wSeq (wSet 3 (wOp2 gIx (wDat (wLst (wCons (wCall 2 F_law_take (wCons (wVar 0) (wCons (wC (.int 4)) wNil))) (wCons (wCall 2 F_law_take (wCons (wVar 0) (wCons (wC (.int 301)) wNil))) wNil)))) (wCall 2 F_law_take (wCons (wVar 0) (wCons (wC (.int 2)) wNil)))))
  (wSeq (wSet 4 (wM "str" mJoin (wC (.str (S []))) (wCons (wDat (wLc (.nm 6) (wRng rng1 (wCons (wVar 3) wNil)) wYes (wOp2 gIx (wC (.str (S [97, 98, 122]))) (wCall 2 F_law_take (wCons (wVar 0) (wCons (wC (.int 3)) wNil)))) [6])) wNil)))
  (wSeq (wSet 5 (wB gMax (wCons (wVar 1) (wCons (wOp2 gSub (wOp2 gAdd (wVar 2) (wVar 1)) (wVar 3)) wNil))))
  (wRet (wTup (wCons (wVar 1) (wCons (wVar 4) (wCons (wVar 2) (wCons (wOp2 gAdd (wVar 5) (wCall 2 F_law_take (wCons (wVar 0) (wCons (wOp2 gAdd (wOp2 gSub (wOp2 gAdd (wVar 2) (wVar 1)) (wVar 5)) (wC (.int 1))) wNil)))) wNil))))))))))
def F_law_great : FS := runF 7 w_law_great
def w_law_two : WS := (wSeq (wSet 2 (wLoc (wBL gListA (wCons (wOp2 gIx (wVar 0) (wC (.int 1))) wNil))))
  (wSeq (wSet 3 (wOp2 gIx (wVar 1) (wC (.int 0))))
  (wSeq (wWhile (wAndT (wCmpT gGt (wVar 3) (wC (.int 0))) (wCmpT gNe (wVar 2) (wDat (wLst wNil)))) (wSeq (wDrop (wU0 uPop (wVar 2)))
  (wSet 3 (wOp2 gSub (wVar 3) (wC (.int 1))))))
  (wSeq (wSet 4 (wOp2 gSub (wOp2 gAdd (wOp2 gIx (wVar 0) (wC (.int 0))) (wOp2 gIx (wVar 0) (wC (.int 2)))) (wB gLen (wCons (wOp2 gIx (wVar 0) (wC (.int 1))) wNil))))
  (wRet (wTup (wCons (wOp2 gAdd (wOp2 gIx (wVar 0) (wC (.int 0))) (wVar 3)) (wCons (wOp2 gAdd (wM "str" mJoin (wC (.str (S []))) (wCons (wVar 2) wNil)) (wOp2 gIx (wVar 1) (wC (.int 1)))) (wCons (wOp2 gAdd (wOp2 gIx (wVar 0) (wC (.int 2))) (wOp2 gIx (wVar 1) (wC (.int 2)))) (wCons (wB gMax (wCons (wOp2 gIx (wVar 0) (wC (.int 3))) (wCons (wOp2 gAdd (wVar 4) (wOp2 gIx (wVar 1) (wC (.int 3)))) wNil))) wNil))))))))))
def F_law_two : FS := runF 5 w_law_two
def w_law_judged_right : WS := (wSeq (wUnp [1, 2, 3, 4] (wOp2 gIx (wDat (wLst (wCons (wCall 1 F_law_great (wCons (wVar 0) wNil)) (wCons (wCall 1 F_law_form (wCons (wCall 2 F_law_still (wCons (wVar 0) (wCons (wC (.int 20)) wNil))) wNil)) wNil)))) (wCall 2 F_law_take (wCons (wVar 0) (wCons (wC (.int 2)) wNil)))))
  (wSeq (wSet 5 (wB gMax (wCons (wVar 1) (wCons (wOp2 gSub (wOp2 gAdd (wVar 3) (wVar 1)) (wB gLen (wCons (wVar 2) wNil))) wNil))))
  (wSeq (wFor (.nm 6) (wIt (wDat (wLst (wCons (wVar 4) (wCons (wVar 5) (wCons (wOp2 gAdd (wVar 3) (wVar 1)) (wCons (wOp2 gSub (wVar 5) (wC (.int 1))) (wCons (wOp2 gAdd (wOp2 gAdd (wVar 3) (wVar 1)) (wC (.int 1))) (wCons (wCall 2 F_law_take (wCons (wVar 0) (wCons (wOp2 gPow (wC (.int 10)) (wC (.int 39))) wNil))) wNil))))))))) (wSeq (wSet 7 (wChain gLe gLe (wVar 5) (wVar 6) (wOp2 gAdd (wVar 3) (wVar 1))))
  (wSeq (wSet 8 (wDat (wLst (wCons (wCall 1 F_is_form (wCons (wTup (wCons (wVar 1) (wCons (wVar 2) (wCons (wVar 3) (wCons (wVar 6) wNil))))) wNil)) (wCons (wCallK0 1 1 F_is_form [0] (wCons (wTup (wCons (wVar 1) (wCons (wVar 2) (wCons (wVar 3) (wCons (wVar 6) wNil))))) wNil)) wNil)))))
  (wIfS (wNotT (wTru (wCall 2 (F_law_same_v1 8) (wCons (wVar 8) (wCons (wDat (wLst (wCons (wVar 7) (wCons (wVar 7) wNil)))) wNil))))) (wRet (wC (.bool false))) wNext))))
  (wSeq (wSet 9 (wOp2 gIx (wDat (wLst (wCons (wC .none) (wCons (wOp1 gNeg (wC (.int 1))) (wCons (wC (.bool true)) (wCons (wC (.str (S [49]))) (wCons (wDat (wLst (wCons (wC (.int 1)) wNil))) (wCons (wTup wNil) (wCons (wC (.str (S []))) (wCons (wC (.str (S [120]))) wNil)))))))))) (wCall 2 F_law_take (wCons (wVar 0) (wCons (wC (.int 8)) wNil)))))
  (wSeq (wSet 10 (wOp2 gIx (wDat (wLst (wCons (wC .none) (wCons (wC (.int 1)) (wCons (wDat (wLst (wCons (wC (.str (S [120]))) wNil))) (wCons (wC (.str (S [88]))) (wCons (wC (.str (S [45]))) (wCons (wC (.str (S [97, 32, 98]))) (wCons (wOp2 gAdd (wVar 2) (wC (.str (S [35])))) (wCons (wTup (wCons (wC (.str (S [120]))) wNil)) (wCons (wC (.bool true)) wNil))))))))))) (wCall 2 F_law_take (wCons (wVar 0) (wCons (wC (.int 9)) wNil)))))
  (wSeq (wSet 11 (wDat (wLst (wCons (wTup (wCons (wVar 9) (wCons (wVar 2) (wCons (wVar 3) (wCons (wVar 4) wNil))))) (wCons (wTup (wCons (wVar 1) (wCons (wVar 10) (wCons (wVar 3) (wCons (wVar 4) wNil))))) (wCons (wTup (wCons (wVar 1) (wCons (wVar 2) (wCons (wVar 9) (wCons (wVar 4) wNil))))) (wCons (wTup (wCons (wVar 1) (wCons (wVar 2) (wCons (wVar 3) (wCons (wVar 9) wNil))))) wNil)))))))
  (wSeq (wSet 11 (wOp2 gAdd (wVar 11) (wDat (wLst (wCons (wDat (wLst (wCons (wVar 1) (wCons (wVar 2) (wCons (wVar 3) (wCons (wVar 4) wNil)))))) (wCons (wTup (wCons (wVar 1) (wCons (wVar 2) (wCons (wVar 3) wNil)))) (wCons (wTup (wCons (wVar 1) (wCons (wVar 2) (wCons (wVar 3) (wCons (wVar 4) (wCons (wVar 4) wNil)))))) (wCons (wC .none) (wCons (wC (.str (S []))) (wCons (wTup wNil) (wCons (wC (.int 0)) wNil)))))))))))
  (wSeq (wSet 11 (wOp2 gAdd (wVar 11) (wDat (wLst (wCons (wC (.dict [])) (wCons (wTup (wCons (wVar 2) (wCons (wVar 1) (wCons (wVar 3) (wCons (wVar 4) wNil))))) (wCons (wTup (wCons (wTup (wCons (wVar 1) (wCons (wVar 2) (wCons (wVar 3) (wCons (wVar 4) wNil))))) wNil)) (wCons (wC (.bool true)) (wCons (wC (.str (S [48, 120, 48, 48]))) (wCons (wDat (wLst wNil)) (wCons (wOp2 gMul (wTup (wCons (wC .none) wNil)) (wC (.int 4))) wNil)))))))))))
  (wRet (wCmp gEq (wDat (wLc (.nm 12) (wIt (wVar 11)) (wCmpT gIsNot (wCall 1 F_is_form (wCons (wVar 12) wNil)) (wC (.bool false))) (wC (.int 1)) [12])) (wDat (wLst wNil))))))))))))
def F_law_judged_right : FS := runF 13 w_law_judged_right
def w_count_up_to : WS := (wSeq (wSet 4 (wLoc (wLst wNil)))
  (wSeq (wFor (.nm 5) (wRng rng1 (wCons (wOp2 gAdd (wOp2 gAdd (wVar 0) (wVar 1)) (wC (.int 1))) wNil)) (wSeq (wSet 6 (wOp2 gSub (wB gMin (wCons (wVar 5) (wCons (wVar 0) wNil))) (wB gMax (wCons (wC (.int 0)) (wCons (wOp2 gSub (wVar 5) (wVar 0)) wNil)))))
  (wSeq (wSet 7 (wLoc (wLst wNil)))
  (wSeq (wFor (.nm 8) (wRng rng1 (wCons (wOp2 gAdd (wVar 2) (wC (.int 1))) wNil)) (wIfS (wCmpT gGt (wOp2 gAdd (wVar 6) (wVar 8)) (wVar 3)) (wDrop (wU uAppend (wVar 7) (wCons (wC (.int 0)) wNil))) (wIfS (wCmpT gEq (wOp2 gAdd (wVar 5) (wVar 8)) (wC (.int 0))) (wDrop (wU uAppend (wVar 7) (wCons (wC (.int 1)) wNil))) (wDrop (wU uAppend (wVar 7) (wCons (wOp2 gAdd (wIf (wCmpT gGt (wVar 5) (wC (.int 0))) (wOp2 gIx (wOp2 gIx (wVar 4) (wOp1 gNeg (wC (.int 1)))) (wVar 8)) (wC (.int 0))) (wIf (wCmpT gGt (wVar 8) (wC (.int 0))) (wOp2 gIx (wVar 7) (wOp1 gNeg (wC (.int 1)))) (wC (.int 0)))) wNil))))))
  (wDrop (wU uAppend (wVar 4) (wCons (wVar 7) wNil)))))))
  (wRet (wOp2 gIx (wOp2 gIx (wVar 4) (wOp1 gNeg (wC (.int 1)))) (wOp1 gNeg (wC (.int 1)))))))
def F_count_up_to : FS := runF 9 w_count_up_to
def w_law_arranged : WS := (wSeq (wSet 2 (wDat (wLst (wCons (wC (.str (S []))) wNil))))
  (wSeq (wFor (.nm 3) (wRng rng1 (wCons (wOp2 gAdd (wB gLen (wCons (wVar 0) wNil)) (wVar 1)) wNil)) (wSeq (wSet 4 (wLoc (wLst wNil)))
  (wSeq (wFor (.nm 5) (wIt (wVar 2)) (wSeq (wSet 6 (wM "str" mCount (wVar 5) (wCons (wC (.str (S [35]))) wNil)))
  (wSeq (wIfS (wCmpT gLt (wVar 6) (wVar 1)) (wDrop (wU uAppend (wVar 4) (wCons (wOp2 gAdd (wVar 5) (wC (.str (S [35])))) wNil))) wNext)
  (wIfS (wCmpT gLt (wOp2 gSub (wB gLen (wCons (wVar 5) wNil)) (wVar 6)) (wB gLen (wCons (wVar 0) wNil))) (wDrop (wU uAppend (wVar 4) (wCons (wOp2 gAdd (wVar 5) (wOp2 gIx (wVar 0) (wOp2 gSub (wB gLen (wCons (wVar 5) wNil)) (wVar 6)))) wNil))) wNext))))
  (wSet 2 (wVar 4)))))
  (wRet (wVar 2))))
def F_law_arranged : FS := runF 7 w_law_arranged
def w_check_two : WS := (wSeq (wDrop (wCall 1 F_check_still (wCons (wVar 0) wNil)))
  (wDrop (wCall 1 F_check_still (wCons (wVar 1) wNil))))
def F_check_two : FS := runF 2 w_check_two
def w_parting_layout : WS := (wSeq (wDrop (wCall 2 F_check_two (wCons (wVar 0) (wCons (wVar 1) wNil))))
  (wSeq (wUnp [2, 3, 4, 5] (wCall 1 F_form_from (wCons (wVar 0) wNil)))
  (wSeq (wUnp [6, 7, 8, 9] (wCall 1 F_form_from (wCons (wVar 1) wNil)))
  (wSeq (wIfS (wCmpT gNe (wVar 3) (wVar 7)) (wRet (wTup (wCons (wC (.int 0)) (wCons (wTup wNil) (wCons (wC (.int 0)) wNil))))) wNext)
  (wSeq (wSet 10 (wLoc (wLst wNil)))
  (wSeq (wIfS (wCmpT gNe (wVar 2) (wVar 6)) (wDrop (wU uAppend (wVar 10) (wCons (wTup (wCons (wOp2 gAdd (wB gMin (wCons (wVar 2) (wCons (wVar 6) wNil))) (wC (.int 1))) (wCons (wC (.int 0)) (wCons (wTup (wCons (wOp2 gAdd (wB gMin (wCons (wVar 2) (wCons (wVar 6) wNil))) (wC (.int 1))) (wCons (wTup wNil) (wCons (wC (.int 0)) wNil)))) wNil)))) wNil))) wNext)
  (wSeq (wIfS (wCmpT gNe (wVar 4) (wVar 8)) (wDrop (wU uAppend (wVar 10) (wCons (wTup (wCons (wOp2 gAdd (wB gMin (wCons (wVar 4) (wCons (wVar 8) wNil))) (wC (.int 1))) (wCons (wC (.int 0)) (wCons (wTup (wCons (wC (.int 0)) (wCons (wTup wNil) (wCons (wOp2 gAdd (wB gMin (wCons (wVar 4) (wCons (wVar 8) wNil))) (wC (.int 1))) wNil)))) wNil)))) wNil))) wNext)
  (wSeq (wIfS (wOrT (wCmpT gNe (wVar 5) (wVar 9)) (wCmpT gNe (wVar 4) (wVar 8))) (wDrop (wU uAppend (wVar 10) (wCons (wTup (wCons (wOp2 gAdd (wB gMin (wCons (wVar 5) (wCons (wVar 9) wNil))) (wC (.int 1))) (wCons (wC (.int 1)) (wCons (wTup (wCons (wC (.int 0)) (wCons (wTup (wCons (wOp2 gAdd (wB gMin (wCons (wVar 5) (wCons (wVar 9) wNil))) (wC (.int 1))) wNil)) (wCons (wC (.int 0)) wNil)))) wNil)))) wNil))) wNext)
  (wRet (wIf (wCmpT gNe (wVar 10) (wDat (wLst wNil))) (wOp2 gIx (wB gMin (wCons (wVar 10) wNil)) (wC (.int 2))) (wC .none)))))))))))
def F_parting_layout : FS := runF 11 w_parting_layout
def w_same_everywhere : WS := (wSeq (wDrop (wCall 2 F_check_two (wCons (wVar 0) (wCons (wVar 1) wNil))))
  (wRet (wCmp gEq (wCall 1 F_form_from (wCons (wVar 0) wNil)) (wCall 1 F_form_from (wCons (wVar 1) wNil)))))
def F_same_everywhere : FS := runF 2 w_same_everywhere
def w_law_near : WS := (wSeq (wPar [2, 3] (wCons (wCall 2 F_law_take (wCons (wVar 0) (wCons (wOp2 gAdd (wB gLen (wCons (wVar 1) wNil)) (wC (.int 1))) wNil))) (wCons (wCall 2 F_law_take (wCons (wVar 0) (wCons (wC (.int 5)) wNil))) wNil)))
  (wSeq (wIfS (wCmpT gEq (wVar 3) (wC (.int 0))) (wRet (wCall 2 F_law_still (wCons (wVar 0) (wCons (wB gMin (wCons (wC (.int 58)) (wCons (wB gMax (wCons (wC (.int 6)) (wCons (wB gLen (wCons (wVar 1) wNil)) wNil))) wNil))) wNil)))) wNext)
  (wSeq (wIfS (wAndT (wCmpT gLt (wVar 3) (wC (.int 3))) (wCmpT gLt (wOp2 gAdd (wVar 2) (wC (.int 1))) (wB gLen (wCons (wVar 1) wNil)))) (wRet (wOp2 gAdd (wOp2 gAdd (wOp2 gAdd (wSl gSl (wVar 1) wNo (wPart (wVar 2))) (wOp2 gIx (wVar 1) (wOp2 gAdd (wVar 2) (wC (.int 1))))) (wOp2 gIx (wVar 1) (wVar 2))) (wSl gSl (wVar 1) (wPart (wOp2 gAdd (wVar 2) (wC (.int 2)))) wNo))) wNext)
  (wSeq (wIfS (wCmpT gEq (wVar 3) (wC (.int 3))) (wRet (wOp2 gAdd (wOp2 gAdd (wSl gSl (wVar 1) wNo (wPart (wVar 2))) (wOp2 gIx (wC (.str (S [120, 45, 35]))) (wCall 2 F_law_take (wCons (wVar 0) (wCons (wC (.int 3)) wNil))))) (wSl gSl (wVar 1) (wPart (wVar 2)) wNo))) wNext)
  (wRet (wOp2 gAdd (wSl gSl (wVar 1) wNo (wPart (wVar 2))) (wSl gSl (wVar 1) (wPart (wOp2 gAdd (wVar 2) (wC (.int 1)))) wNo)))))))
def F_law_near : FS := runF 4 w_law_near
def w_law_layouts : WS := (wSeq (wSet 1 (wDat (wLc (.nm 2) (wRng rng1 (wCons (wOp2 gAdd (wVar 0) (wC (.int 1))) wNil)) wYes (wTup (wCons (wVar 2) (wCons (wTup wNil) (wCons (wOp2 gSub (wVar 0) (wVar 2)) wNil)))) [2])))
  (wSeq (wFor (.nm 2) (wRng rng1 (wCons (wOp2 gAdd (wVar 0) (wC (.int 1))) wNil)) (wSet 1 (wOp2 gAdd (wVar 1) (wDat (wLc (.nm 3) (wRng rng2 (wCons (wC (.int 1)) (wCons (wOp2 gAdd (wOp2 gSub (wVar 0) (wVar 2)) (wC (.int 1))) wNil))) wYes (wTup (wCons (wVar 2) (wCons (wTup (wCons (wVar 3) wNil)) (wCons (wOp2 gSub (wOp2 gSub (wVar 0) (wVar 2)) (wVar 3)) wNil)))) [3])))))
  (wRet (wVar 1))))
def F_law_layouts : FS := runF 4 w_law_layouts
def w_law_moved_v1 : WS := (wSeq (wIfS (wCmpT gEq (wVar 2) (wC (.str (S [60])))) (wRet (wTup (wCons (wVar 0) (wCons (wDat (wLc (.nm 5) (wIt (wVar 1)) wYes (wB gMax (wCons (wC (.int 0)) (wCons (wOp2 gSub (wVar 5) (wC (.int 1))) wNil))) [5])) wNil)))) wNext)
  (wSeq (wIfS (wCmpT gEq (wVar 2) (wC (.str (S [62])))) (wRet (wTup (wCons (wVar 0) (wCons (wDat (wLc (.nm 5) (wIt (wVar 1)) wYes (wB gMin (wCons (wB gLen (wCons (wVar 0) wNil)) (wCons (wOp2 gAdd (wVar 5) (wC (.int 1))) wNil))) [5])) wNil)))) wNext)
  (wSeq (wIfS (wCmpT gEq (wVar 2) (wC (.str (S [45])))) (wSet 3 (wDat (wLc (.nm 5) (wIt (wVar 1)) (wCmpT gGt (wVar 5) (wC (.int 0))) (wOp2 gSub (wVar 5) (wC (.int 1))) [5]))) (wSet 3 (wDat (wLc (.nm 5) (wIt (wVar 1)) (wCmpT gLt (wVar 5) (wB gLen (wCons (wVar 0) wNil))) (wVar 5) [5]))))
  (wSeq (wSet 4 (wDat (wLc (.nm 5) (wIt (wVar 1)) wYes (wOp2 gSub (wVar 5) (wB gLen (wCons (wDat (wLc (.nm 6) (wIt (wVar 3)) (wCmpT gLt (wVar 6) (wVar 5)) (wVar 6) [6])) wNil))) [5])))
  (wRet (wTup (wCons (wDat (wLc (.tp [7, 8]) (wEnum (wCons (wVar 0) wNil)) (wCmpT gNotIn (wVar 7) (wVar 3)) (wVar 8) [7, 8])) (wCons (wVar 4) wNil))))))))
def F_law_moved_v1 : FS := runF 9 w_law_moved_v1
def w_law_pressed_v2 : WS := (wSeq (wFor (.nm 3) (wIt (wVar 2)) (wSeq (wIfS (wCmpT gIn (wVar 3) (wC (.str (S [60, 62, 45, 35])))) (wUnp [0, 4] (wCall 3 F_law_moved_v1 (wCons (wVar 0) (wCons (wVar 1) (wCons (wVar 3) wNil))))) (wSeq (wPar [5, 4] (wCons (wLoc (wLst wNil)) (wCons (wLoc (wLst wNil)) wNil)))
  (wSeq (wFor (.nm 6) (wRng rng1 (wCons (wOp2 gAdd (wB gLen (wCons (wVar 0) wNil)) (wC (.int 1))) wNil)) (wSeq (wIfS (wCmpT gIn (wVar 6) (wVar 1)) (wSeq (wDrop (wU uAppend (wVar 5) (wCons (wVar 3) wNil)))
  (wDrop (wU uAppend (wVar 4) (wCons (wB gLen (wCons (wVar 5) wNil)) wNil)))) wNext)
  (wDrop (wU uExtend (wVar 5) (wCons (wSl gSl (wVar 0) (wPart (wVar 6)) (wPart (wOp2 gAdd (wVar 6) (wC (.int 1))))) wNil)))))
  (wSet 0 (wFrz (wVar 5))))))
  (wSet 1 (wDat (wSortS (wVar 4))))))
  (wRet (wTup (wCons (wVar 0) (wCons (wVar 1) wNil)))))
def F_law_pressed_v2 : FS := runF 7 w_law_pressed_v2
def w_law_differ : WS := (wSeq (wUnp [3, 4, 5] (wVar 0))
  (wSeq (wSet 6 (wLoc (wLst (wCons (wVar 3) wNil))))
  (wSeq (wFor (.nm 7) (wIt (wVar 4)) (wDrop (wU uAppend (wVar 6) (wCons (wOp2 gAdd (wOp2 gIx (wVar 6) (wOp1 gNeg (wC (.int 1)))) (wVar 7)) wNil))))
  (wSeq (wSet 8 (wDat (wLstRg (wRg1 (wOp2 gAdd (wOp2 gIx (wVar 6) (wOp1 gNeg (wC (.int 1)))) (wVar 5))))))
  (wRet (wCmp gNe (wCall 3 F_law_pressed_v2 (wCons (wVar 8) (wCons (wFrz (wVar 6)) (wCons (wVar 1) wNil)))) (wCall 3 F_law_pressed_v2 (wCons (wVar 8) (wCons (wFrz (wVar 6)) (wCons (wVar 2) wNil))))))))))
def F_law_differ : FS := runF 9 w_law_differ
def w_law_least : WS := (wSeq (wFor (.nm 2) (wRng rng1 (wCons (wC (.int 40)) wNil)) (wFor (.nm 3) (wIt (wCall 1 F_law_layouts (wCons (wVar 2) wNil))) (wIfS (wTru (wCall 3 F_law_differ (wCons (wVar 3) (wCons (wVar 0) (wCons (wVar 1) wNil))))) (wRet (wVar 3)) wNext)))
  (wRet (wC .none)))
def F_law_least : FS := runF 4 w_law_least
def w_law_alike_right : WS := (wSeq (wIfS (wOrT (wCmpT gIsNot (wCall 2 F_parting_layout (wCons (wVar 1) (wCons (wVar 2) wNil))) (wC .none)) (wCmpT gIsNot (wCallK0 2 2 F_parting_layout [1, 0] (wCons (wVar 2) (wCons (wVar 1) wNil))) (wC .none))) (wRet (wC (.bool false))) wNext)
  (wSeq (wFor (.nm 3) (wRng rng1 (wCons (wC (.int 4)) wNil)) (wSeq (wSet 4 (wDat (wSortS (wDat (wLc (.nm 6) (wRng rng1 (wCons (wOp2 gAdd (wC (.int 1)) (wCall 2 F_law_take (wCons (wVar 0) (wCons (wC (.int 5)) wNil)))) wNil)) wYes (wCall 2 F_law_take (wCons (wVar 0) (wCons (wC (.int 16)) wNil))) [6])))))
  (wSeq (wSet 5 (wDat (wLstRg (wRg1 (wOp2 gAdd (wOp2 gIx (wVar 4) (wOp1 gNeg (wC (.int 1)))) (wCall 2 F_law_take (wCons (wVar 0) (wCons (wC (.int 7)) wNil))))))))
  (wIfS (wCmpT gNe (wCall 3 F_law_pressed_v2 (wCons (wVar 5) (wCons (wVar 4) (wCons (wVar 1) wNil)))) (wCall 3 F_law_pressed_v2 (wCons (wVar 5) (wCons (wVar 4) (wCons (wVar 2) wNil))))) (wRet (wC (.bool false))) wNext))))
  (wRet (wC (.bool true)))))
def F_law_alike_right : FS := runF 7 w_law_alike_right
def w_law_right_k20 : WS := (wSeq (wSet 1 (wCall 2 F_law_still (wCons (wVar 0) (wCons (wC (.int 6)) wNil))))
  (wSeq (wSet 2 (wCall 2 F_law_near (wCons (wVar 0) (wCons (wVar 1) wNil))))
  (wSeq (wSet 3 (wCmp gEq (wCall 1 F_law_form (wCons (wVar 1) wNil)) (wCall 1 F_law_form (wCons (wVar 2) wNil))))
  (wSeq (wSet 4 (wDat (wLst (wCons (wCall 2 F_same_everywhere (wCons (wVar 1) (wCons (wVar 2) wNil))) (wCons (wCallK0 2 2 F_same_everywhere [1, 0] (wCons (wVar 1) (wCons (wVar 2) wNil))) wNil)))))
  (wSeq (wIfS (wNotT (wTru (wCall 2 (F_law_same_v1 8) (wCons (wVar 4) (wCons (wDat (wLst (wCons (wVar 3) (wCons (wVar 3) wNil)))) wNil))))) (wRet (wC (.bool false))) wNext)
  (wSeq (wIfS (wTru (wVar 3)) (wRet (wCall 3 F_law_alike_right (wCons (wVar 0) (wCons (wVar 1) (wCons (wVar 2) wNil))))) wNext)
  (wSeq (wSet 5 (wCall 2 F_law_least (wCons (wVar 1) (wCons (wVar 2) wNil))))
  (wRet (wCall 2 (F_law_same_v1 8) (wCons (wDat (wLst (wCons (wCall 2 F_parting_layout (wCons (wVar 1) (wCons (wVar 2) wNil))) (wCons (wCallK0 2 2 F_parting_layout [1, 0] (wCons (wVar 1) (wCons (wVar 2) wNil))) wNil)))) (wCons (wDat (wLst (wCons (wVar 5) (wCons (wVar 5) wNil)))) wNil)))))))))))
def F_law_right_k20 : FS := runF 6 w_law_right_k20
def w_law_least_of : WS := (wSeq (wSet 2 (wIf (wCmpT gNe (wOp2 gIx (wVar 0) (wC (.int 1))) (wOp2 gIx (wVar 1) (wC (.int 1)))) (wLoc (wLst (wCons (wTup (wCons (wC (.int 0)) (wCons (wC (.int 0)) (wCons (wTup (wCons (wC (.int 0)) (wCons (wTup wNil) (wCons (wC (.int 0)) wNil)))) wNil)))) wNil))) (wLoc (wLst wNil))))
  (wSeq (wSet 3 (wIf (wCmpT gEq (wOp2 gIx (wVar 0) (wC (.int 1))) (wOp2 gIx (wVar 1) (wC (.int 1)))) (wDat (wLc (.nm 4) (wIt (wDat (wLst (wCons (wC (.int 0)) (wCons (wC (.int 2)) (wCons (wC (.int 3)) wNil)))))) wYes (wOp2 gAdd (wB gMin (wCons (wOp2 gIx (wVar 0) (wVar 4)) (wCons (wOp2 gIx (wVar 1) (wVar 4)) wNil))) (wC (.int 1))) [4])) (wDat (wLst (wCons (wC (.int 0)) (wCons (wC (.int 0)) (wCons (wC (.int 0)) wNil)))))))
  (wSeq (wIfS (wAndT (wCmpT gGt (wOp2 gIx (wVar 3) (wC (.int 0))) (wC (.int 0))) (wCmpT gNe (wOp2 gIx (wVar 0) (wC (.int 0))) (wOp2 gIx (wVar 1) (wC (.int 0))))) (wDrop (wU uAppend (wVar 2) (wCons (wTup (wCons (wOp2 gIx (wVar 3) (wC (.int 0))) (wCons (wC (.int 0)) (wCons (wTup (wCons (wOp2 gIx (wVar 3) (wC (.int 0))) (wCons (wTup wNil) (wCons (wC (.int 0)) wNil)))) wNil)))) wNil))) wNext)
  (wSeq (wIfS (wAndT (wCmpT gGt (wOp2 gIx (wVar 3) (wC (.int 0))) (wC (.int 0))) (wCmpT gNe (wOp2 gIx (wVar 0) (wC (.int 2))) (wOp2 gIx (wVar 1) (wC (.int 2))))) (wDrop (wU uAppend (wVar 2) (wCons (wTup (wCons (wOp2 gIx (wVar 3) (wC (.int 1))) (wCons (wC (.int 0)) (wCons (wTup (wCons (wC (.int 0)) (wCons (wTup wNil) (wCons (wOp2 gIx (wVar 3) (wC (.int 1))) wNil)))) wNil)))) wNil))) wNext)
  (wSeq (wIfS (wAndT (wCmpT gGt (wOp2 gIx (wVar 3) (wC (.int 0))) (wC (.int 0))) (wOrT (wCmpT gNe (wOp2 gIx (wVar 0) (wC (.int 3))) (wOp2 gIx (wVar 1) (wC (.int 3)))) (wCmpT gNe (wOp2 gIx (wVar 0) (wC (.int 2))) (wOp2 gIx (wVar 1) (wC (.int 2)))))) (wDrop (wU uAppend (wVar 2) (wCons (wTup (wCons (wOp2 gIx (wVar 3) (wC (.int 2))) (wCons (wC (.int 1)) (wCons (wTup (wCons (wC (.int 0)) (wCons (wTup (wCons (wOp2 gIx (wVar 3) (wC (.int 2))) wNil)) (wCons (wC (.int 0)) wNil)))) wNil)))) wNil))) wNext)
  (wRet (wIf (wCmpT gNe (wVar 2) (wDat (wLst wNil))) (wOp2 gIx (wOp2 gIx (wDat (wBL gSortL (wCons (wVar 2) wNil))) (wC (.int 0))) (wC (.int 2))) (wC .none))))))))
def F_law_least_of : FS := runF 5 w_law_least_of
def w_law_long_right_v1 : WS := (wSeq (wSet 1 (wCall 2 F_law_still (wCons (wVar 0) (wCons (wC (.int 58)) wNil))))
  (wSeq (wSet 2 (wCall 2 F_law_take (wCons (wVar 0) (wCons (wOp2 gAdd (wB gLen (wCons (wVar 1) wNil)) (wC (.int 1))) wNil))))
  (wSeq (wSet 3 (wOp2 gAdd (wOp2 gAdd (wSl gSl (wVar 1) wNo (wPart (wVar 2))) (wOp2 gIx (wC (.str (S [97, 98, 113]))) (wCall 2 F_law_take (wCons (wVar 0) (wCons (wC (.int 3)) wNil))))) (wSl gSl (wVar 1) (wPart (wOp2 gAdd (wVar 2) (wC (.int 1)))) wNo)))
  (wSeq (wFor (.nm 4) (wIt (wDat (wLst (wCons (wCall 2 F_law_near (wCons (wVar 0) (wCons (wVar 1) wNil))) (wCons (wVar 3) (wCons (wOp2 gAdd (wOp2 gAdd (wSl gSl (wVar 1) wNo (wPart (wVar 2))) (wOp2 gIx (wC (.str (S [45, 35]))) (wCall 2 F_law_take (wCons (wVar 0) (wCons (wC (.int 2)) wNil))))) (wSl gSl (wVar 1) (wPart (wVar 2)) wNo)) (wCons (wDat (wRevL (wVar 1))) wNil))))))) (wSeq (wPar [5, 6] (wCons (wCall 1 F_law_form (wCons (wVar 1) wNil)) (wCons (wCall 1 F_law_form (wCons (wVar 4) wNil)) wNil)))
  (wSeq (wSet 7 (wCall 2 F_law_least_of (wCons (wVar 5) (wCons (wVar 6) wNil))))
  (wSeq (wIfS (wNotT (wTru (wCall 2 (F_law_same_v1 8) (wCons (wDat (wLst (wCons (wCall 2 F_same_everywhere (wCons (wVar 1) (wCons (wVar 4) wNil))) (wCons (wCall 2 F_parting_layout (wCons (wVar 1) (wCons (wVar 4) wNil))) wNil)))) (wCons (wDat (wLst (wCons (wCmp gEq (wVar 5) (wVar 6)) (wCons (wVar 7) wNil)))) wNil))))) (wRet (wC (.bool false))) wNext)
  (wIfS (wAndT (wCmpT gIsNot (wVar 7) (wC .none)) (wNotT (wTru (wCall 3 F_law_differ (wCons (wVar 7) (wCons (wVar 1) (wCons (wVar 4) wNil))))))) (wRet (wC (.bool false))) wNext)))))
  (wRet (wC (.bool true)))))))
def F_law_long_right_v1 : FS := runF 8 w_law_long_right_v1
def w_law_k20 : WS := (wSeq (wFor (.nm 1) (wRng rng1 (wCons (wB gMax (wCons (wC (.int 1)) (wCons (wB gMin (wCons (wC (.int 4)) (wCons (wScrLen (wVar 0)) wNil))) wNil))) wNil)) (wSeq (wSet 2 (wCall 2 F_law_bag (wCons (wCall 2 F_law_cell_at (wCons (wVar 0) (wCons (wVar 1) wNil))) (wCons (wVar 1) wNil))))
  (wFor (.nm 3) (wRng rng1 (wCons (wC (.int 4)) wNil)) (wIfS (wOrT (wNotT (wTru (wCall 1 F_law_right_k20 (wCons (wVar 2) wNil)))) (wNotT (wTru (wCall 1 F_law_long_right_v1 (wCons (wVar 2) wNil))))) (wRet (wC (.bool false))) wNext))))
  (wSeq (wIfS (wCmpT gNe (wCall 2 F_parting_layout (wCons (wC (.str (S [120, 120, 35]))) (wCons (wC (.str (S [120, 120, 35, 35]))) wNil))) (wTup (wCons (wC (.int 0)) (wCons (wTup (wCons (wC (.int 1)) wNil)) (wCons (wC (.int 0)) wNil))))) (wRet (wC (.bool false))) wNext)
  (wRet (wAndV (wCmp gEq (wCall 2 F_parting_layout (wCons (wC (.str (S [35, 120]))) (wCons (wC (.str (S [120, 35]))) wNil))) (wTup (wCons (wC (.int 0)) (wCons (wTup (wCons (wC (.int 1)) wNil)) (wCons (wC (.int 0)) wNil))))) (wCmp gIs (wCall 2 F_same_everywhere (wCons (wOp2 gMul (wC (.str (S [35, 45]))) (wC (.int 30))) (wCons (wOp2 gMul (wC (.str (S [45, 35]))) (wC (.int 30))) wNil))) (wC (.bool true)))))))
def F_law_k20 : FS := runF 4 w_law_k20
def w_law_no_form : WS := (wSeq (wUnp [2, 3, 4, 5] (wVar 1))
  (wSeq (wSet 6 (wOp2 gIx (wDat (wLst (wCons (wC .none) (wCons (wOp1 gNeg (wC (.int 1))) (wCons (wC (.bool true)) (wCons (wC (.str (S [49]))) (wCons (wDat (wLst (wCons (wC (.int 1)) wNil))) (wCons (wTup wNil) (wCons (wOp2 gSub (wC (.int 0)) (wOp2 gPow (wC (.int 10)) (wC (.int 39)))) wNil))))))))) (wCall 2 F_law_take (wCons (wVar 0) (wCons (wC (.int 7)) wNil)))))
  (wSeq (wSet 7 (wOp2 gIx (wDat (wLst (wCons (wC .none) (wCons (wC (.int 1)) (wCons (wDat (wLst (wCons (wC (.str (S [120]))) wNil))) (wCons (wOp2 gAdd (wVar 3) (wC (.str (S [88])))) (wCons (wOp2 gAdd (wC (.str (S [45]))) (wVar 3)) (wCons (wOp2 gAdd (wVar 3) (wC (.str (S [35])))) (wCons (wTup (wCons (wC (.str (S [120]))) wNil)) (wCons (wOp2 gAdd (wVar 3) (wC (.str (S [32])))) wNil)))))))))) (wCall 2 F_law_take (wCons (wVar 0) (wCons (wC (.int 8)) wNil)))))
  (wSeq (wSet 8 (wDat (wLst (wCons (wTup (wCons (wVar 6) (wCons (wVar 3) (wCons (wVar 4) (wCons (wVar 5) wNil))))) (wCons (wTup (wCons (wVar 2) (wCons (wVar 7) (wCons (wVar 4) (wCons (wVar 5) wNil))))) (wCons (wTup (wCons (wVar 2) (wCons (wVar 3) (wCons (wVar 6) (wCons (wVar 5) wNil))))) (wCons (wTup (wCons (wVar 2) (wCons (wVar 3) (wCons (wVar 4) (wCons (wVar 6) wNil))))) wNil)))))))
  (wSeq (wSet 8 (wOp2 gAdd (wVar 8) (wDat (wLst (wCons (wTup (wCons (wVar 2) (wCons (wVar 3) (wCons (wVar 4) (wCons (wOp2 gAdd (wOp2 gAdd (wOp2 gAdd (wVar 4) (wVar 2)) (wC (.int 1))) (wCall 2 F_law_take (wCons (wVar 0) (wCons (wC (.int 9)) wNil)))) wNil))))) (wCons (wTup (wCons (wVar 2) (wCons (wVar 3) (wCons (wVar 4) (wCons (wOp1 gNeg (wC (.int 1))) wNil))))) wNil))))))
  (wSeq (wIfS (wCmpT gGt (wB gMax (wCons (wVar 2) (wCons (wOp2 gSub (wOp2 gAdd (wVar 4) (wVar 2)) (wB gLen (wCons (wVar 3) wNil))) wNil))) (wC (.int 0))) (wSet 8 (wOp2 gAdd (wVar 8) (wDat (wOpL gMulL (wDat (wLst (wCons (wTup (wCons (wVar 2) (wCons (wVar 3) (wCons (wVar 4) (wCons (wOp2 gSub (wB gMax (wCons (wVar 2) (wCons (wOp2 gSub (wOp2 gAdd (wVar 4) (wVar 2)) (wB gLen (wCons (wVar 3) wNil))) wNil))) (wC (.int 1))) wNil))))) wNil))) (wC (.int 2)))))) wNext)
  (wSeq (wSet 8 (wOp2 gAdd (wVar 8) (wDat (wLst (wCons (wDat (wBL gListA (wCons (wVar 1) wNil))) (wCons (wSl gSl (wVar 1) wNo (wPart (wC (.int 3)))) (wCons (wOp2 gAdd (wVar 1) (wTup (wCons (wC (.int 0)) wNil))) (wCons (wC .none) (wCons (wC (.int 0)) (wCons (wC (.str (S []))) (wCons (wTup wNil) (wCons (wC (.dict [])) (wCons (wDat (wLst (wCons (wVar 1) wNil))) (wCons (wVar 3) wNil))))))))))))))
  (wRet (wOp2 gIx (wVar 8) (wCall 2 F_law_take (wCons (wVar 0) (wCons (wB gLen (wCons (wVar 8) wNil)) wNil))))))))))))
def F_law_no_form : FS := runF 9 w_law_no_form
def w_law_no_keys_v1 : WS := (wSeq (wSet 2 (wCall 2 F_law_take (wCons (wVar 0) (wCons (wOp2 gAdd (wB gLen (wCons (wVar 1) wNil)) (wC (.int 1))) wNil))))
  (wSeq (wSet 3 (wOp2 gAdd (wOp2 gAdd (wSl gSl (wVar 1) wNo (wPart (wVar 2))) (wOp2 gIx (wDat (wLst (wCons (wC (.str (S [65]))) (wCons (wC (.str (S [32]))) (wCons (wC (.str (S [49]))) (wCons (wC (.str (S [124]))) (wCons (wC (.str (S [95]))) (wCons (wC (.str (S [61]))) (wCons (wC (.str (S [90]))) (wCons (wC (.str (S [43]))) wNil)))))))))) (wCall 2 F_law_take (wCons (wVar 0) (wCons (wC (.int 8)) wNil))))) (wSl gSl (wVar 1) (wPart (wVar 2)) wNo)))
  (wSeq (wSet 4 (wDat (wLst (wCons (wC .none) (wCons (wC (.int 0)) (wCons (wC (.bool true)) (wCons (wTup wNil) (wCons (wDat (wLst wNil)) (wCons (wC (.dict [])) (wCons (wTup (wCons (wC (.str (S [97]))) wNil)) (wCons (wDat (wLst (wCons (wC (.str (S [97]))) (wCons (wC (.str (S [45]))) wNil)))) (wCons (wOp2 gPow (wC (.int 10)) (wC (.int 39))) (wCons (wDat (wLst (wCons (wVar 1) wNil))) (wCons (wTup (wCons (wVar 1) wNil)) wNil))))))))))))))
  (wRet (wOp2 gIx (wDat (wLst (wCons (wOp2 gIx (wVar 4) (wCall 2 F_law_take (wCons (wVar 0) (wCons (wC (.int 11)) wNil)))) (wCons (wVar 3) wNil)))) (wCall 2 F_law_take (wCons (wVar 0) (wCons (wC (.int 2)) wNil))))))))
def F_law_no_keys_v1 : FS := runF 5 w_law_no_keys_v1
def w_law_with_moves : WS := (wSeq (wSet 2 (wCall 2 F_law_take (wCons (wVar 0) (wCons (wOp2 gAdd (wB gLen (wCons (wVar 1) wNil)) (wC (.int 1))) wNil))))
  (wRet (wOp2 gAdd (wOp2 gAdd (wSl gSl (wVar 1) wNo (wPart (wVar 2))) (wOp2 gIx (wC (.str (S [60, 62]))) (wCall 2 F_law_take (wCons (wVar 0) (wCons (wC (.int 2)) wNil))))) (wSl gSl (wVar 1) (wPart (wVar 2)) wNo))))
def F_law_with_moves : FS := runF 3 w_law_with_moves
def w_law_pressed_right : WS := (wSeq (wPar [2, 3] (wCons (wCall 2 F_law_take (wCons (wVar 0) (wCons (wC (.int 50)) wNil))) (wCons (wCall 2 F_law_take (wCons (wVar 0) (wCons (wC (.int 50)) wNil))) wNil)))
  (wSeq (wSet 4 (wSl gSl (wOp2 gMul (wC (.str (S [65, 66, 67, 68, 69, 70, 71, 72]))) (wC (.int 13))) wNo (wPart (wOp2 gAdd (wVar 2) (wVar 3)))))
  (wSeq (wUnp [5, 6, 7, 8] (wCall 1 F_form_of (wCons (wVar 1) wNil)))
  (wSeq (wSet 9 (wOp2 gAdd (wSl gSl (wVar 4) wNo (wPart (wB gMax (wCons (wC (.int 0)) (wCons (wOp2 gSub (wVar 2) (wVar 5)) wNil))))) (wVar 6)))
  (wRet (wCmp gEq (wCall 3 F_pressed (wCons (wVar 4) (wCons (wTup (wCons (wVar 2) wNil)) (wCons (wVar 1) wNil)))) (wTup (wCons (wOp2 gAdd (wVar 9) (wSl gSl (wSl gSl (wVar 4) (wPart (wVar 2)) wNo) (wPart (wVar 7)) wNo)) (wCons (wTup (wCons (wB gLen (wCons (wVar 9) wNil)) wNil)) wNil)))))))))
def F_law_pressed_right : FS := runF 10 w_law_pressed_right
def w_check_both : WS := (wSeq (wDrop (wCall 1 F_check_layout (wCons (wVar 0) wNil)))
  (wDrop (wCall 1 F_check_form (wCons (wVar 1) wNil))))
def F_check_both : FS := runF 2 w_check_both
def w_gap_piece : WS := (wSeq (wUnp [2, 3, 4, 5] (wVar 1))
  (wSeq (wSet 6 (wOp2 gSub (wVar 0) (wVar 2)))
  (wSeq (wIfS (wCmpT gLt (wVar 4) (wVar 6)) (wRet (wTup (wCons (wVar 4) (wCons (wOp2 gSub (wVar 6) (wVar 4)) (wCons (wVar 3) wNil))))) wNext)
  (wRet (wTup (wCons (wC (.int 0)) (wCons (wC (.int 0)) (wCons (wSl gSl (wVar 3) (wPart (wOp2 gSub (wVar 4) (wVar 6))) wNo) wNil))))))))
def F_gap_piece : FS := runF 7 w_gap_piece
def w_pieces_from : WS := (wSeq (wUnp [2, 3, 4] (wVar 0))
  (wSeq (wUnp [5, 6, 7, 8] (wVar 1))
  (wSeq (wSet 9 (wLoc (wLst (wCons (wTup (wCons (wC (.int 0)) (wCons (wB gMax (wCons (wC (.int 0)) (wCons (wOp2 gSub (wVar 2) (wVar 5)) wNil))) (wCons (wVar 6) wNil)))) wNil))))
  (wSeq (wDrop (wU uExtend (wVar 9) (wCons (wDat (wLc (.nm 10) (wIt (wVar 3)) (wCmpT gGt (wVar 10) (wVar 8)) (wCall 2 F_gap_piece (wCons (wVar 10) (wCons (wVar 1) wNil))) [10])) wNil)))
  (wSeq (wDrop (wU uAppend (wVar 9) (wCons (wTup (wCons (wIf (wCmpT gLt (wVar 7) (wVar 4)) (wVar 7) (wC (.int 0))) (wCons (wB gMax (wCons (wC (.int 0)) (wCons (wOp2 gSub (wVar 4) (wVar 7)) wNil))) (wCons (wC (.str (S []))) wNil)))) wNil)))
  (wRet (wVar 9)))))))
def F_pieces_from : FS := runF 11 w_pieces_from
def w_pieces_after : WS := (wSeq (wDrop (wCall 2 F_check_both (wCons (wVar 0) (wCons (wVar 1) wNil))))
  (wRet (wCall 2 F_pieces_from (wCons (wVar 0) (wCons (wVar 1) wNil)))))
def F_pieces_after : FS := runF 2 w_pieces_after
def w_law_layout_v1 : WS := (wSeq (wSet 3 (wLoc (wLst wNil)))
  (wSeq (wFor (.nm 4) (wRng rng1 (wCons (wCall 2 F_law_take (wCons (wVar 0) (wCons (wOp2 gAdd (wVar 1) (wC (.int 1))) wNil))) wNil)) (wDrop (wU uAppend (wVar 3) (wCons (wOp2 gAdd (wC (.int 1)) (wCall 2 F_law_take (wCons (wVar 0) (wCons (wOp2 gIx (wDat (wLst (wCons (wC (.int 3)) (wCons (wC (.int 12)) (wCons (wVar 2) wNil))))) (wCall 2 F_law_take (wCons (wVar 0) (wCons (wC (.int 3)) wNil)))) wNil)))) wNil))))
  (wSeq (wSet 5 (wDat (wLc (.nm 4) (wRng rng1 (wCons (wC (.int 2)) wNil)) wYes (wCall 2 F_law_take (wCons (wVar 0) (wCons (wOp2 gIx (wDat (wLst (wCons (wC (.int 4)) (wCons (wC (.int 12)) (wCons (wVar 2) wNil))))) (wCall 2 F_law_take (wCons (wVar 0) (wCons (wC (.int 3)) wNil)))) wNil))) [4])))
  (wRet (wTup (wCons (wOp2 gIx (wVar 5) (wC (.int 0))) (wCons (wB gTuple (wCons (wVar 3) wNil)) (wCons (wOp2 gIx (wVar 5) (wC (.int 1))) wNil))))))))
def F_law_layout_v1 : FS := runF 6 w_law_layout_v1
def w_law_piece : WS := (wSeq (wSet 2 (wDat (wLc (.nm 4) (wIt (wVar 0)) (wTru (wIsi "int" (wVar 4))) (wVar 4) [4])))
  (wSeq (wSet 3 (wDat (wLc (.nm 4) (wIt (wVar 0)) (wTru (wIsi "str" (wVar 4))) (wVar 4) [4])))
  (wSeq (wIfS (wOrT (wCmpT gNe (wVar 0) (wOp2 gAdd (wVar 2) (wVar 3))) (wCmpT gNe (wDat (wLc (.tp [5, 6]) (wZip (wCons (wVar 2) (wCons (wSl gSl (wVar 2) (wPart (wC (.int 1))) wNo) wNil))) (wCmpT gNe (wVar 6) (wOp2 gAdd (wVar 5) (wC (.int 1)))) (wC (.int 1)) [5, 6])) (wDat (wLst wNil)))) (wRet (wC .none)) wNext)
  (wRet (wTup (wCons (wIf (wCmpT gNe (wVar 2) (wDat (wLst wNil))) (wOp2 gSub (wOp2 gIx (wVar 2) (wC (.int 0))) (wVar 1)) (wC (.int 0))) (wCons (wB gLen (wCons (wVar 2) wNil)) (wCons (wM "str" mJoin (wC (.str (S []))) (wCons (wVar 3) wNil)) wNil))))))))
def F_law_piece : FS := runF 7 w_law_piece
def w_law_due : WS := (wSeq (wUnp [2, 3, 4] (wVar 0))
  (wSeq (wPar [5, 6] (wCons (wLoc (wLst (wCons (wVar 2) wNil))) (wCons (wLoc (wLst (wCons (wC (.int 0)) (wCons (wVar 2) wNil)))) wNil)))
  (wSeq (wFor (.nm 7) (wIt (wVar 3)) (wSeq (wDrop (wU uAppend (wVar 5) (wCons (wOp2 gAdd (wOp2 gIx (wVar 5) (wOp1 gNeg (wC (.int 1)))) (wVar 7)) wNil)))
  (wDrop (wU uAppend (wVar 6) (wCons (wOp2 gIx (wVar 5) (wOp1 gNeg (wC (.int 1)))) wNil)))))
  (wSeq (wUnp [8, 9] (wCall 3 F_law_pressed_v2 (wCons (wDat (wLstRg (wRg1 (wOp2 gAdd (wOp2 gIx (wVar 5) (wOp1 gNeg (wC (.int 1)))) (wVar 4))))) (wCons (wDat (wBL gListA (wCons (wVar 5) wNil))) (wCons (wVar 1) wNil)))))
  (wSeq (wPar [10, 11, 12] (wCons (wOp2 gAdd (wVar 9) (wDat (wLst (wCons (wB gLen (wCons (wVar 8) wNil)) wNil)))) (wCons (wLoc (wLst wNil)) (wCons (wC (.int 0)) wNil))))
  (wSeq (wSet 13 (wOp2 gIx (wCall 1 F_law_form (wCons (wVar 1) wNil)) (wC (.int 3))))
  (wSeq (wSet 14 (wDat (wOpL gAddL (wDat (wOpL gAddL (wDat (wLst (wCons (wC (.int 0)) wNil))) (wDat (wLc (.tp [18, 7]) (wZipN (wCons (wVar 5) (wCons (wVar 3) wNil))) (wCmpT gGt (wVar 7) (wVar 13)) (wVar 18) [18, 7])))) (wDat (wLst (wCons (wOp2 gIx (wVar 5) (wOp1 gNeg (wC (.int 1)))) wNil))))))
  (wSeq (wFor (.tp [15, 16]) (wZip (wCons (wVar 10) (wCons (wVar 14) wNil))) (wSeq (wDrop (wU uAppend (wVar 11) (wCons (wCall 2 F_law_piece (wCons (wSl gSl (wVar 8) (wPart (wVar 12)) (wPart (wVar 15))) (wCons (wVar 16) wNil))) wNil)))
  (wSet 12 (wVar 15))))
  (wSeq (wSet 17 (wDat (wLc (.tp [12, 15]) (wZip (wCons (wDat (wOpL gAddL (wDat (wLst (wCons (wC (.int 0)) wNil))) (wVar 9))) (wCons (wVar 10) wNil))) wYes (wOp2 gSub (wVar 15) (wVar 12)) [12, 15])))
  (wRet (wTup (wCons (wVar 11) (wCons (wTup (wCons (wOp2 gIx (wVar 17) (wC (.int 0))) (wCons (wB gTuple (wCons (wSl gSl (wVar 17) (wPart (wC (.int 1))) (wPart (wOp1 gNeg (wC (.int 1))))) wNil)) (wCons (wOp2 gIx (wVar 17) (wOp1 gNeg (wC (.int 1)))) wNil)))) wNil)))))))))))))
def F_law_due : FS := runF 19 w_law_due
def w_layout_by_form : WS := (wSeq (wDrop (wCall 2 F_check_both (wCons (wVar 0) (wCons (wVar 1) wNil))))
  (wSeq (wSet 2 (wDat (wLc (.tp [3, 4, 5]) (wIt (wFrz (wCall 2 F_pieces_from (wCons (wVar 0) (wCons (wVar 1) wNil))))) wYes (wOp2 gAdd (wVar 4) (wB gLen (wCons (wVar 5) wNil))) [3, 4, 5])))
  (wRet (wTup (wCons (wOp2 gIx (wVar 2) (wC (.int 0))) (wCons (wB gTuple (wCons (wSl gSl (wVar 2) (wPart (wC (.int 1))) (wPart (wOp1 gNeg (wC (.int 1))))) wNil)) (wCons (wOp2 gIx (wVar 2) (wOp1 gNeg (wC (.int 1)))) wNil)))))))
def F_layout_by_form : FS := runF 6 w_layout_by_form
def w_law_right_k23 : WS := (wSeq (wPar [1, 2] (wCons (wCall 3 F_law_layout_v1 (wCons (wVar 0) (wCons (wC (.int 5)) (wCons (wC (.int 12)) wNil)))) (wCons (wCall 2 F_law_still (wCons (wVar 0) (wCons (wC (.int 12)) wNil))) wNil)))
  (wSeq (wPar [3, 4] (wCons (wCall 1 F_law_form (wCons (wVar 2) wNil)) (wCons (wCall 2 F_law_due (wCons (wVar 1) (wCons (wVar 2) wNil))) wNil)))
  (wSeq (wIfS (wCmpT gNe (wB gLen (wCons (wOp2 gIx (wVar 4) (wC (.int 0))) wNil)) (wOp2 gAdd (wB gLen (wCons (wDat (wLc (.nm 7) (wIt (wOp2 gIx (wVar 1) (wC (.int 1)))) (wCmpT gGt (wVar 7) (wOp2 gIx (wVar 3) (wC (.int 3)))) (wVar 7) [7])) wNil)) (wC (.int 2)))) (wRet (wC (.bool false))) wNext)
  (wSeq (wSet 5 (wCall 2 F_pieces_after (wCons (wVar 1) (wCons (wVar 3) wNil))))
  (wSeq (wIfS (wOrT (wNotT (wTru (wCall 2 (F_law_same_v1 8) (wCons (wVar 5) (wCons (wOp2 gIx (wVar 4) (wC (.int 0))) wNil))))) (wNotT (wTru (wCall 2 (F_law_same_v1 8) (wCons (wCall 2 F_layout_by_form (wCons (wVar 1) (wCons (wVar 3) wNil))) (wCons (wOp2 gIx (wVar 4) (wC (.int 1))) wNil)))))) (wRet (wC (.bool false))) wNext)
  (wSeq (wDrop (wU uAppend (wVar 5) (wCons (wTup (wCons (wC (.int 0)) (wCons (wC (.int 0)) (wCons (wC (.str (S []))) wNil)))) wNil)))
  (wSeq (wSet 6 (wDat (wLst (wCons (wFrz (wCallK0 2 2 F_pieces_after [1, 0] (wCons (wVar 3) (wCons (wVar 1) wNil)))) (wCons (wCallK0 2 2 F_layout_by_form [1, 0] (wCons (wVar 3) (wCons (wVar 1) wNil))) wNil)))))
  (wRet (wCall 2 (F_law_same_v1 8) (wCons (wVar 6) (wCons (wDat (wLst (wCons (wOp2 gIx (wVar 4) (wC (.int 0))) (wCons (wOp2 gIx (wVar 4) (wC (.int 1))) wNil)))) wNil)))))))))))
def F_law_right_k23 : FS := runF 8 w_law_right_k23
def w_law_k23 : WS := (wSeq (wFor (.nm 1) (wRng rng1 (wCons (wB gMax (wCons (wC (.int 1)) (wCons (wB gMin (wCons (wC (.int 6)) (wCons (wScrLen (wVar 0)) wNil))) wNil))) wNil)) (wSeq (wSet 2 (wCall 2 F_law_bag (wCons (wCall 2 F_law_cell_at (wCons (wVar 0) (wCons (wVar 1) wNil))) (wCons (wVar 1) wNil))))
  (wFor (.nm 3) (wRng rng1 (wCons (wC (.int 6)) wNil)) (wIfS (wNotT (wTru (wCall 1 F_law_right_k23 (wCons (wVar 2) wNil)))) (wRet (wC (.bool false))) wNext))))
  (wSeq (wSet 4 (wDat (wLst (wCons (wFrz (wCall 2 F_pieces_after (wCons (wTup (wCons (wC (.int 2)) (wCons (wTup (wCons (wC (.int 1)) (wCons (wC (.int 3)) wNil))) (wCons (wC (.int 4)) wNil)))) (wCons (wTup (wCons (wC (.int 1)) (wCons (wC (.str (S [120]))) (wCons (wC (.int 0)) (wCons (wC (.int 1)) wNil))))) wNil)))) (wCons (wFrz (wCall 2 F_pieces_after (wCons (wTup (wCons (wC (.int 0)) (wCons (wTup (wCons (wC (.int 3)) wNil)) (wCons (wC (.int 0)) wNil)))) (wCons (wTup (wCons (wC (.int 0)) (wCons (wC (.str (S [120, 121]))) (wCons (wC (.int 4)) (wCons (wC (.int 2)) wNil))))) wNil)))) wNil)))))
  (wRet (wCall 2 (F_law_same_v1 8) (wCons (wVar 4) (wCons (wDat (wLst (wCons (wDat (wLst (wCons (wTup (wCons (wC (.int 0)) (wCons (wC (.int 1)) (wCons (wC (.str (S [120]))) wNil)))) (wCons (wTup (wCons (wC (.int 0)) (wCons (wC (.int 2)) (wCons (wC (.str (S [120]))) wNil)))) (wCons (wTup (wCons (wC (.int 0)) (wCons (wC (.int 4)) (wCons (wC (.str (S []))) wNil)))) wNil))))) (wCons (wDat (wLst (wCons (wTup (wCons (wC (.int 0)) (wCons (wC (.int 0)) (wCons (wC (.str (S [120, 121]))) wNil)))) (wCons (wTup (wCons (wC (.int 0)) (wCons (wC (.int 0)) (wCons (wC (.str (S [121]))) wNil)))) (wCons (wTup (wCons (wC (.int 0)) (wCons (wC (.int 0)) (wCons (wC (.str (S []))) wNil)))) wNil))))) wNil)))) wNil))))))
def F_law_k23 : FS := runF 5 w_law_k23
def w_pieces_fromb : WS := (wSeq (wUnp [2, 3, 4] (wVar 0))
  (wSeq (wUnp [5, 6, 7, 8] (wVar 1))
  (wSeq (wSet 9 (wLoc (wLst (wCons (wTup (wCons (wC (.int 0)) (wCons (wB gMax (wCons (wC (.int 0)) (wCons (wOp2 gSub (wVar 2) (wVar 5)) wNil))) (wCons (wVar 6) wNil)))) wNil))))
  (wSeq (wDrop (wU uExtend (wVar 9) (wCons (wDat (wLc (.nm 10) (wIt (wVar 3)) (wCmpT gGt (wVar 10) (wVar 8)) (wCall 2 F_gap_piece (wCons (wVar 10) (wCons (wVar 1) wNil))) [10])) wNil)))
  (wSeq (wDrop (wU uAppend (wVar 9) (wCons (wTup (wCons (wIf (wCmpT gLt (wVar 7) (wVar 4)) (wVar 7) (wC (.int 0))) (wCons (wB gMax (wCons (wC (.int 0)) (wCons (wOp2 gSub (wVar 4) (wVar 7)) wNil))) (wCons (wC (.str (S []))) wNil)))) wNil)))
  (wRet (wFrz (wVar 9))))))))
def F_pieces_fromb : FS := runF 11 w_pieces_fromb
def w_layout_by_formb : WS := (wSeq (wDrop (wCall 2 F_check_both (wCons (wVar 0) (wCons (wVar 1) wNil))))
  (wSeq (wSet 2 (wDat (wLc (.tp [3, 4, 5]) (wIt (wCall 2 F_pieces_fromb (wCons (wVar 0) (wCons (wVar 1) wNil)))) wYes (wOp2 gAdd (wVar 4) (wB gLen (wCons (wVar 5) wNil))) [3, 4, 5])))
  (wRet (wTup (wCons (wOp2 gIx (wVar 2) (wC (.int 0))) (wCons (wB gTuple (wCons (wSl gSl (wVar 2) (wPart (wC (.int 1))) (wPart (wOp1 gNeg (wC (.int 1))))) wNil)) (wCons (wOp2 gIx (wVar 2) (wOp1 gNeg (wC (.int 1)))) wNil)))))))
def F_layout_by_formb : FS := runF 6 w_layout_by_formb
def w_law_cut : WS := (wRet (wIf (wCmpT gLt (wVar 0) (wVar 1)) (wTup (wCons (wVar 0) (wCons (wOp2 gSub (wVar 1) (wVar 0)) (wCons (wVar 2) wNil)))) (wTup (wCons (wC (.int 0)) (wCons (wC (.int 0)) (wCons (wVar 2) wNil))))))
def F_law_cut : FS := runF 3 w_law_cut
def w_law_due_v1 : WS := (wSeq (wUnp [2, 3, 4] (wVar 0))
  (wSeq (wUnp [5, 6, 7, 8] (wVar 1))
  (wSeq (wSet 9 (wLoc (wLst (wCons (wCall 3 F_law_cut (wCons (wC (.int 0)) (wCons (wOp2 gSub (wVar 2) (wVar 5)) (wCons (wVar 6) wNil)))) wNil))))
  (wSeq (wFor (.nm 10) (wIt (wVar 3)) (wIfS (wCmpT gGt (wVar 10) (wVar 8)) (wSeq (wSet 11 (wB gMax (wCons (wC (.int 0)) (wCons (wOp2 gSub (wVar 7) (wOp2 gSub (wVar 10) (wVar 5))) wNil))))
  (wDrop (wU uAppend (wVar 9) (wCons (wCall 3 F_law_cut (wCons (wVar 7) (wCons (wOp2 gSub (wVar 10) (wVar 5)) (wCons (wM "str" mJoin (wC (.str (S []))) (wCons (wDat (wLc (.nm 12) (wRng rng2 (wCons (wVar 11) (wCons (wB gLen (wCons (wVar 6) wNil)) wNil))) wYes (wOp2 gIx (wVar 6) (wVar 12)) [12])) wNil)) wNil)))) wNil)))) wNext))
  (wRet (wDat (wOpL gAddL (wVar 9) (wDat (wLst (wCons (wCall 3 F_law_cut (wCons (wVar 7) (wCons (wVar 4) (wCons (wC (.str (S []))) wNil)))) wNil))))))))))
def F_law_due_v1 : FS := runF 13 w_law_due_v1
def w_law_near_v1 : WS := (wSeq (wUnp [2, 3, 4, 5] (wVar 1))
  (wSeq (wSet 6 (wDat (wLst (wCons (wOp2 gAdd (wVar 5) (wC (.int 1))) (wCons (wOp2 gAdd (wVar 5) (wC (.int 2))) (wCons (wOp2 gAdd (wVar 2) (wVar 4)) (wCons (wOp2 gAdd (wOp2 gAdd (wVar 2) (wVar 4)) (wC (.int 1))) (wCons (wOp2 gAdd (wVar 2) (wC (.int 1))) (wCons (wVar 5) (wCons (wC (.int 1)) (wCons (wOp2 gAdd (wVar 5) (wB gLen (wCons (wVar 3) wNil))) wNil)))))))))))
  (wRet (wB gMax (wCons (wC (.int 1)) (wCons (wOp2 gAdd (wOp2 gIx (wVar 6) (wCall 2 F_law_take (wCons (wVar 0) (wCons (wC (.int 8)) wNil)))) (wCall 2 F_law_take (wCons (wVar 0) (wCons (wC (.int 2)) wNil)))) wNil))))))
def F_law_near_v1 : FS := runF 7 w_law_near_v1
def w_pieces_afterb : WS := (wSeq (wDrop (wCall 2 F_check_both (wCons (wVar 0) (wCons (wVar 1) wNil))))
  (wRet (wCall 2 F_pieces_fromb (wCons (wVar 0) (wCons (wVar 1) wNil)))))
def F_pieces_afterb : FS := runF 2 w_pieces_afterb
def w_law_right_k24 : WS := (wSeq (wSet 2 (wCall 1 F_law_great (wCons (wVar 0) wNil)))
  (wSeq (wUnp [3, 4, 5] (wCall 3 F_law_layout_v1 (wCons (wVar 0) (wCons (wC (.int 12)) (wCons (wOp2 gPow (wC (.int 10)) (wC (.int 39))) wNil)))))
  (wSeq (wSet 6 (wB gMax (wCons (wOp2 gSub (wVar 1) (wB gLen (wCons (wVar 4) wNil))) (wCons (wCall 2 F_law_take (wCons (wVar 0) (wCons (wC (.int 9)) wNil))) wNil))))
  (wSeq (wSet 4 (wOp2 gAdd (wVar 4) (wB gTuple (wCons (wDat (wLc (.nm 13) (wRng rng1 (wCons (wVar 6) wNil)) wYes (wCall 2 F_law_near_v1 (wCons (wVar 0) (wCons (wVar 2) wNil))) [13])) wNil))))
  (wSeq (wSet 7 (wDat (wLst (wCons (wVar 3) (wCons (wVar 5) (wCons (wOp2 gIx (wVar 2) (wC (.int 0))) (wCons (wOp2 gAdd (wOp2 gIx (wVar 2) (wC (.int 2))) (wC (.int 1))) (wCons (wB gMax (wCons (wC (.int 0)) (wCons (wOp2 gSub (wOp2 gIx (wVar 2) (wC (.int 0))) (wC (.int 1))) wNil))) wNil))))))))
  (wSeq (wSet 8 (wTup (wCons (wOp2 gIx (wVar 7) (wCall 2 F_law_take (wCons (wVar 0) (wCons (wC (.int 5)) wNil)))) (wCons (wVar 4) (wCons (wOp2 gIx (wVar 7) (wCall 2 F_law_take (wCons (wVar 0) (wCons (wC (.int 5)) wNil)))) wNil)))))
  (wSeq (wPar [9, 10] (wCons (wB gRepr (wCons (wDat (wLst (wCons (wVar 8) (wCons (wVar 2) wNil)))) wNil)) (wCons (wCall 2 F_law_due_v1 (wCons (wVar 8) (wCons (wVar 2) wNil))) wNil)))
  (wSeq (wIfS (wOrT (wNotT (wTru (wCall 2 (F_law_same_v1 8) (wCons (wCall 2 F_pieces_afterb (wCons (wVar 8) (wCons (wVar 2) wNil))) (wCons (wVar 10) wNil))))) (wCmpT gNe (wB gRepr (wCons (wDat (wLst (wCons (wVar 8) (wCons (wVar 2) wNil)))) wNil)) (wVar 9))) (wRet (wC (.bool false))) wNext)
  (wSeq (wSet 11 (wDat (wLc (.tp [14, 15, 16]) (wIt (wVar 10)) wYes (wOp2 gAdd (wVar 15) (wB gLen (wCons (wVar 16) wNil))) [14, 15, 16])))
  (wSeq (wSet 12 (wTup (wCons (wOp2 gIx (wVar 11) (wC (.int 0))) (wCons (wB gTuple (wCons (wSl gSl (wVar 11) (wPart (wC (.int 1))) (wPart (wOp1 gNeg (wC (.int 1))))) wNil)) (wCons (wOp2 gIx (wVar 11) (wOp1 gNeg (wC (.int 1)))) wNil)))))
  (wRet (wAndV (wCall 2 (F_law_same_v1 8) (wCons (wCall 2 F_layout_by_formb (wCons (wVar 8) (wCons (wVar 2) wNil))) (wCons (wVar 12) wNil))) (wCmp gGt (wB gMin (wCons (wOp2 gAdd (wSl gSl (wVar 11) (wPart (wC (.int 1))) (wPart (wOp1 gNeg (wC (.int 1))))) (wDat (wLst (wCons (wC (.int 1)) wNil)))) wNil)) (wC (.int 0)))))))))))))))
def F_law_right_k24 : FS := runF 17 w_law_right_k24
def w_law_k24 : WS := (wSeq (wFor (.nm 1) (wRng rng1 (wCons (wB gMax (wCons (wC (.int 1)) (wCons (wB gMin (wCons (wC (.int 8)) (wCons (wScrLen (wVar 0)) wNil))) wNil))) wNil)) (wSeq (wSet 2 (wCall 2 F_law_bag (wCons (wCall 2 F_law_cell_at (wCons (wVar 0) (wCons (wVar 1) wNil))) (wCons (wVar 1) wNil))))
  (wFor (.nm 3) (wRng rng1 (wCons (wC (.int 6)) wNil)) (wIfS (wNotT (wTru (wCall 2 F_law_right_k24 (wCons (wVar 2) (wCons (wOp2 gMul (wC (.int 80)) (wB gInt (wCons (wCmp gEq (wOp2 gAdd (wVar 1) (wVar 3)) (wC (.int 0))) wNil))) wNil))))) (wRet (wC (.bool false))) wNext))))
  (wRet (wCmp gEq (wCall 2 F_layout_by_formb (wCons (wTup (wCons (wC (.int 2)) (wCons (wTup (wCons (wC (.int 1)) (wCons (wC (.int 3)) wNil))) (wCons (wC (.int 4)) wNil)))) (wCons (wTup (wCons (wC (.int 1)) (wCons (wC (.str (S [120]))) (wCons (wC (.int 0)) (wCons (wC (.int 1)) wNil))))) wNil))) (wTup (wCons (wC (.int 2)) (wCons (wTup (wCons (wC (.int 3)) wNil)) (wCons (wC (.int 4)) wNil)))))))
def F_law_k24 : FS := runF 4 w_law_k24
def w_loss_of : WS := (wRet (wOp2 gSub (wOp2 gAdd (wOp2 gIx (wVar 0) (wC (.int 0))) (wOp2 gIx (wVar 0) (wC (.int 2)))) (wB gLen (wCons (wOp2 gIx (wVar 0) (wC (.int 1))) wNil))))
def F_loss_of : FS := runF 1 w_loss_of
def w_gone_round : WS := (wSeq (wPar [2, 3] (wCons (wOp2 gIx (wVar 1) (wC (.int 3))) (wCons (wCall 1 F_loss_of (wCons (wVar 1) wNil)) wNil)))
  (wSeq (wIfS (wCmpT gLe (wVar 0) (wVar 2)) (wRet (wC (.int 1))) wNext)
  (wSeq (wIfS (wCmpT gLe (wVar 3) (wC (.int 0))) (wRet (wC .none)) wNext)
  (wRet (wOp2 gAdd (wOp2 gDiv (wOp2 gSub (wOp2 gAdd (wOp2 gSub (wVar 0) (wVar 2)) (wVar 3)) (wC (.int 1))) (wVar 3)) (wC (.int 1)))))))
def F_gone_round : FS := runF 4 w_gone_round
def w_before_after : WS := (wSeq (wPar [3, 4] (wCons (wOp2 gIx (wVar 1) (wC (.int 0))) (wCons (wB gLen (wCons (wOp2 gIx (wVar 1) (wC (.int 1))) wNil)) wNil)))
  (wSeq (wIfS (wCmpT gGe (wVar 4) (wVar 3)) (wSeq (wSet 5 (wOp2 gAdd (wB gMax (wCons (wC (.int 0)) (wCons (wOp2 gSub (wVar 0) (wVar 3)) wNil))) (wVar 4)))
  (wRet (wOp2 gAdd (wVar 5) (wOp2 gMul (wOp2 gSub (wVar 2) (wC (.int 1))) (wOp2 gSub (wVar 4) (wVar 3)))))) wNext)
  (wRet (wB gMax (wCons (wVar 4) (wCons (wOp2 gSub (wVar 0) (wOp2 gMul (wVar 2) (wOp2 gSub (wVar 3) (wVar 4)))) wNil))))))
def F_before_after : FS := runF 6 w_before_after
def w_rounds_layout : WS := (wSeq (wDrop (wCall 2 F_check_both (wCons (wVar 0) (wCons (wVar 1) wNil))))
  (wSeq (wIfS (wNotT (wTru (wCall 3 F_is_integer (wCons (wVar 2) (wCons (wC (.int 0)) (wCons (wC .none) wNil)))))) (wRaise "InvalidRounds") wNext)
  (wSeq (wIfS (wCmpT gEq (wVar 2) (wC (.int 0))) (wRet (wVar 0)) wNext)
  (wSeq (wUnp [3, 4, 5] (wVar 0))
  (wSeq (wSet 6 (wLoc (wLst wNil)))
  (wSeq (wFor (.nm 7) (wIt (wVar 4)) (wSeq (wSet 8 (wCall 2 F_gone_round (wCons (wVar 7) (wCons (wVar 1) wNil))))
  (wIfS (wOrT (wCmpT gIs (wVar 8) (wC .none)) (wCmpT gGt (wVar 8) (wVar 2))) (wDrop (wU uAppend (wVar 6) (wCons (wOp2 gSub (wVar 7) (wOp2 gMul (wVar 2) (wCall 1 F_loss_of (wCons (wVar 1) wNil)))) wNil))) wNext)))
  (wRet (wTup (wCons (wCall 3 F_before_after (wCons (wVar 3) (wCons (wVar 1) (wCons (wVar 2) wNil)))) (wCons (wB gTuple (wCons (wVar 6) wNil)) (wCons (wB gMax (wCons (wC (.int 0)) (wCons (wOp2 gSub (wVar 5) (wOp2 gMul (wVar 2) (wOp2 gIx (wVar 1) (wC (.int 2))))) wNil))) wNil)))))))))))
def F_rounds_layout : FS := runF 9 w_rounds_layout
def w_law_small_form : WS := (wSeq (wUnpL [1, 2, 3] (wDat (wLc (.nm 5) (wRng rng1 (wCons (wC (.int 3)) wNil)) wYes (wCall 2 F_law_take (wCons (wVar 0) (wCons (wC (.int 4)) wNil))) [5])))
  (wSeq (wSet 4 (wB gMax (wCons (wVar 1) (wCons (wOp2 gSub (wOp2 gAdd (wVar 2) (wVar 1)) (wVar 3)) wNil))))
  (wRet (wTup (wCons (wVar 1) (wCons (wSl gSl (wC (.str (S [120, 121, 122]))) wNo (wPart (wVar 3))) (wCons (wVar 2) (wCons (wOp2 gAdd (wVar 4) (wCall 2 F_law_take (wCons (wVar 0) (wCons (wOp2 gAdd (wOp2 gSub (wOp2 gAdd (wVar 2) (wVar 1)) (wVar 4)) (wC (.int 1))) wNil)))) wNil))))))))
def F_law_small_form : FS := runF 6 w_law_small_form
def w_law_once : WS := (wSeq (wUnp [2, 3, 4] (wVar 0))
  (wSeq (wUnp [5, 6, 7, 8] (wVar 1))
  (wSeq (wSet 9 (wLoc (wLst wNil)))
  (wSeq (wFor (.nm 10) (wIt (wVar 3)) (wDrop (wU uAppend (wVar 9) (wCons (wIf (wAndT (wCmpT gIsNot (wVar 10) (wC .none)) (wCmpT gGt (wVar 10) (wVar 8))) (wOp2 gSub (wOp2 gAdd (wOp2 gSub (wVar 10) (wVar 5)) (wB gLen (wCons (wVar 6) wNil))) (wVar 7)) (wC .none)) wNil))))
  (wRet (wTup (wCons (wOp2 gAdd (wB gMax (wCons (wC (.int 0)) (wCons (wOp2 gSub (wVar 2) (wVar 5)) wNil))) (wB gLen (wCons (wVar 6) wNil))) (wCons (wVar 9) (wCons (wB gMax (wCons (wC (.int 0)) (wCons (wOp2 gSub (wVar 4) (wVar 7)) wNil))) wNil)))))))))
def F_law_once : FS := runF 11 w_law_once
def w_gone_after : WS := (wSeq (wDrop (wCall 2 F_check_both (wCons (wVar 0) (wCons (wVar 1) wNil))))
  (wSeq (wIfS (wNotT (wTru (wCall 3 F_is_integer (wCons (wVar 2) (wCons (wC (.int 0)) (wCons (wOp2 gSub (wB gLen (wCons (wOp2 gIx (wVar 0) (wC (.int 1))) wNil)) (wC (.int 1))) wNil)))))) (wRaise "InvalidIndex") wNext)
  (wRet (wCall 2 F_gone_round (wCons (wOp2 gIx (wOp2 gIx (wVar 0) (wC (.int 1))) (wVar 2)) (wCons (wVar 1) wNil))))))
def F_gone_after : FS := runF 3 w_gone_after
def w_law_small_right_v1 : WS := (wSeq (wPar [1, 2] (wCons (wCall 3 F_law_layout_v1 (wCons (wVar 0) (wCons (wC (.int 6)) (wCons (wC (.int 40)) wNil)))) (wCons (wCall 1 F_law_small_form (wCons (wVar 0) wNil)) wNil)))
  (wSeq (wPar [3, 4] (wCons (wTup (wCons (wOp2 gIx (wVar 1) (wC (.int 0))) (wCons (wDat (wBL gListA (wCons (wOp2 gIx (wVar 1) (wC (.int 1))) wNil))) (wCons (wOp2 gIx (wVar 1) (wC (.int 2))) wNil)))) (wCons (wLoc (wOpL gMulL (wDat (wLst (wCons (wC .none) wNil))) (wB gLen (wCons (wOp2 gIx (wVar 1) (wC (.int 1))) wNil)))) wNil)))
  (wSeq (wFor (.nm 5) (wRng rng1 (wCons (wC (.int 31)) wNil)) (wSeq (wSet 6 (wTup (wCons (wOp2 gIx (wVar 3) (wC (.int 0))) (wCons (wB gTuple (wCons (wDat (wLc (.nm 8) (wIt (wOp2 gIx (wVar 3) (wC (.int 1)))) (wCmpT gIsNot (wVar 8) (wC .none)) (wVar 8) [8])) wNil)) (wCons (wOp2 gIx (wVar 3) (wC (.int 2))) wNil)))))
  (wSeq (wIfS (wNotT (wTru (wCall 2 (F_law_same_v1 8) (wCons (wCall 3 F_rounds_layout (wCons (wVar 1) (wCons (wVar 2) (wCons (wVar 5) wNil)))) (wCons (wVar 6) wNil))))) (wRet (wC (.bool false))) wNext)
  (wSeq (wSet 3 (wCall 2 F_law_once (wCons (wVar 3) (wCons (wVar 2) wNil))))
  (wFor (.tp [7, 8]) (wEnum (wCons (wOp2 gIx (wVar 3) (wC (.int 1))) wNil)) (wIfS (wAndT (wCmpT gIs (wVar 8) (wC .none)) (wCmpT gIs (wOp2 gIx (wVar 4) (wVar 7)) (wC .none))) (wSetI (wVar 4) (wVar 7) (wOp2 gAdd (wVar 5) (wC (.int 1)))) wNext))))))
  (wSeq (wFor (.tp [7, 6]) (wEnum (wCons (wVar 4) wNil)) (wSeq (wSet 9 (wCall 3 F_gone_after (wCons (wVar 1) (wCons (wVar 2) (wCons (wVar 7) wNil)))))
  (wIfS (wOrT (wAndT (wCmpT gIs (wVar 6) (wC .none)) (wAndT (wCmpT gIsNot (wVar 9) (wC .none)) (wCmpT gLt (wVar 9) (wC (.int 32))))) (wAndT (wCmpT gIsNot (wVar 6) (wC .none)) (wNotT (wTru (wCall 2 (F_law_same_v1 8) (wCons (wVar 9) (wCons (wVar 6) wNil))))))) (wRet (wC (.bool false))) wNext)))
  (wRet (wC (.bool true)))))))
def F_law_small_right_v1 : FS := runF 10 w_law_small_right_v1
def w_law_gap_right : WS := (wSeq (wUnp [3, 4, 5, 6] (wVar 1))
  (wSeq (wPar [7, 8] (wCons (wOp2 gIx (wOp2 gIx (wVar 0) (wC (.int 1))) (wVar 2)) (wCons (wOp2 gSub (wOp2 gAdd (wVar 3) (wVar 5)) (wB gLen (wCons (wVar 4) wNil))) wNil)))
  (wSeq (wSet 9 (wCallK0 3 3 F_gone_after [2, 1, 0] (wCons (wVar 2) (wCons (wVar 1) (wCons (wVar 0) wNil)))))
  (wSeq (wIfS (wCmpT gIs (wVar 9) (wC .none)) (wRet (wAndV (wCmp gGt (wVar 7) (wVar 6)) (wCmp gLe (wVar 8) (wC (.int 0))))) wNext)
  (wSeq (wIfS (wOrT (wCmpT gLt (wVar 9) (wC (.int 1))) (wAndT (wCmpT gLe (wVar 7) (wVar 6)) (wCmpT gNe (wVar 9) (wC (.int 1))))) (wRet (wC (.bool false))) wNext)
  (wSeq (wSet 10 (wTup (wCons (wC (.int 0)) (wCons (wTup (wCons (wVar 7) wNil)) (wCons (wC (.int 0)) wNil)))))
  (wSeq (wIfS (wCmpT gNe (wOp2 gIx (wCall 3 F_rounds_layout (wCons (wVar 10) (wCons (wVar 1) (wCons (wOp2 gSub (wVar 9) (wC (.int 1))) wNil)))) (wC (.int 1))) (wTup (wCons (wOp2 gSub (wVar 7) (wOp2 gMul (wOp2 gSub (wVar 9) (wC (.int 1))) (wVar 8))) wNil))) (wRet (wC (.bool false))) wNext)
  (wSeq (wIfS (wOrT (wAndT (wCmpT gGt (wVar 9) (wC (.int 1))) (wCmpT gLe (wOp2 gSub (wVar 7) (wOp2 gMul (wOp2 gSub (wVar 9) (wC (.int 2))) (wVar 8))) (wVar 6))) (wCmpT gGt (wOp2 gSub (wVar 7) (wOp2 gMul (wOp2 gSub (wVar 9) (wC (.int 1))) (wVar 8))) (wVar 6))) (wRet (wC (.bool false))) wNext)
  (wRet (wCmp gEq (wOp2 gIx (wCall 3 F_rounds_layout (wCons (wVar 10) (wCons (wVar 1) (wCons (wVar 9) wNil)))) (wC (.int 1))) (wTup wNil)))))))))))
def F_law_gap_right : FS := runF 11 w_law_gap_right
def w_law_great_right : WS := (wSeq (wPar [2, 3] (wCons (wCall 3 F_law_layout_v1 (wCons (wVar 0) (wCons (wVar 1) (wCons (wOp2 gPow (wC (.int 10)) (wC (.int 39))) wNil)))) (wCons (wCall 1 F_law_great (wCons (wVar 0) wNil)) wNil)))
  (wSeq (wFor (.nm 4) (wRng rng1 (wCons (wB gLen (wCons (wOp2 gIx (wVar 2) (wC (.int 1))) wNil)) wNil)) (wIfS (wNotT (wTru (wCall 3 F_law_gap_right (wCons (wVar 2) (wCons (wVar 3) (wCons (wVar 4) wNil)))))) (wRet (wC (.bool false))) wNext))
  (wSeq (wSet 5 (wDat (wLc (.nm 4) (wRng rng1 (wCons (wB gLen (wCons (wOp2 gIx (wVar 2) (wC (.int 1))) wNil)) wNil)) wYes (wCall 3 F_gone_after (wCons (wVar 2) (wCons (wVar 3) (wCons (wVar 4) wNil)))) [4])))
  (wSeq (wSet 6 (wDat (wOpL gAddL (wDat (wLc (.nm 15) (wIt (wVar 5)) (wCmpT gIsNot (wVar 15) (wC .none)) (wOp2 gSub (wVar 15) (wC (.int 1))) [15])) (wDat (wLc (.nm 15) (wIt (wVar 5)) (wCmpT gIsNot (wVar 15) (wC .none)) (wVar 15) [15])))))
  (wSeq (wFor (.nm 7) (wIt (wOp2 gAdd (wSl gSl (wVar 6) wNo (wPart (wC (.int 4)))) (wDat (wLst (wCons (wC (.int 0)) (wCons (wC (.int 1)) (wCons (wCall 2 F_law_take (wCons (wVar 0) (wCons (wOp2 gPow (wC (.int 10)) (wC (.int 39))) wNil))) wNil))))))) (wSeq (wSet 8 (wCallK0 3 3 F_rounds_layout [2, 1, 0] (wCons (wVar 7) (wCons (wVar 3) (wCons (wVar 2) wNil)))))
  (wSeq (wSet 9 (wTup (wCons (wOp2 gIx (wVar 8) (wC (.int 0))) (wCons (wDat (wBL gListA (wCons (wOp2 gIx (wVar 8) (wC (.int 1))) wNil))) (wCons (wOp2 gIx (wVar 8) (wC (.int 2))) wNil)))))
  (wSeq (wPar [10, 11] (wCons (wCall 3 F_rounds_layout (wCons (wVar 2) (wCons (wVar 3) (wCons (wOp2 gAdd (wVar 7) (wC (.int 1))) wNil)))) (wCons (wCall 2 F_law_once (wCons (wVar 9) (wCons (wVar 3) wNil))) wNil)))
  (wSeq (wSet 12 (wTup (wCons (wOp2 gIx (wVar 11) (wC (.int 0))) (wCons (wB gTuple (wCons (wDat (wLc (.nm 16) (wIt (wOp2 gIx (wVar 11) (wC (.int 1)))) (wCmpT gIsNot (wVar 16) (wC .none)) (wVar 16) [16])) wNil)) (wCons (wOp2 gIx (wVar 11) (wC (.int 2))) wNil)))))
  (wSeq (wIfS (wNotT (wTru (wCall 2 (F_law_same_v1 8) (wCons (wVar 10) (wCons (wVar 12) wNil))))) (wRet (wC (.bool false))) wNext)
  (wSeq (wSet 13 (wDat (wLc (.tp [16, 15]) (wZipM (wCons (wOp2 gIx (wVar 2) (wC (.int 1))) (wCons (wVar 5) wNil))) (wOrT (wCmpT gIs (wVar 15) (wC .none)) (wCmpT gGt (wVar 15) (wVar 7))) (wVar 16) [16, 15])))
  (wSeq (wSet 14 (wOp2 gSub (wOp2 gAdd (wOp2 gIx (wVar 3) (wC (.int 0))) (wOp2 gIx (wVar 3) (wC (.int 2)))) (wB gLen (wCons (wOp2 gIx (wVar 3) (wC (.int 1))) wNil))))
  (wIfS (wOrT (wCmpT gNe (wDat (wBL gListA (wCons (wOp2 gIx (wVar 8) (wC (.int 1))) wNil))) (wDat (wLc (.nm 16) (wIt (wVar 13)) wYes (wOp2 gSub (wVar 16) (wOp2 gMul (wVar 7) (wVar 14))) [16]))) (wCmpT gNe (wOp2 gIx (wVar 8) (wC (.int 2))) (wB gMax (wCons (wC (.int 0)) (wCons (wOp2 gSub (wOp2 gIx (wVar 2) (wC (.int 2))) (wOp2 gMul (wVar 7) (wOp2 gIx (wVar 3) (wC (.int 2))))) wNil))))) (wRet (wC (.bool false))) wNext)))))))))
  (wRet (wCmp gEq (wCall 3 F_rounds_layout (wCons (wVar 2) (wCons (wVar 3) (wCons (wC (.int 0)) wNil)))) (wVar 2))))))))
def F_law_great_right : FS := runF 17 w_law_great_right
def w_law_k25 : WS := (wSeq (wFor (.nm 1) (wRng rng1 (wCons (wB gMax (wCons (wC (.int 1)) (wCons (wB gMin (wCons (wC (.int 6)) (wCons (wScrLen (wVar 0)) wNil))) wNil))) wNil)) (wSeq (wSet 2 (wCall 2 F_law_bag (wCons (wCall 2 F_law_cell_at (wCons (wVar 0) (wCons (wVar 1) wNil))) (wCons (wVar 1) wNil))))
  (wFor (.nm 3) (wRng rng1 (wCons (wC (.int 3)) wNil)) (wIfS (wOrT (wNotT (wTru (wCall 1 F_law_small_right_v1 (wCons (wVar 2) wNil)))) (wNotT (wTru (wCall 2 F_law_great_right (wCons (wVar 2) (wCons (wOp2 gIx (wDat (wLst (wCons (wC (.int 12)) (wCons (wC (.int 80)) wNil)))) (wB gInt (wCons (wCmp gEq (wOp2 gAdd (wVar 1) (wVar 3)) (wC (.int 0))) wNil))) wNil)))))) (wRet (wC (.bool false))) wNext))))
  (wRet (wCmp gEq (wCall 3 F_rounds_layout (wCons (wTup (wCons (wC (.int 0)) (wCons (wTup (wCons (wC (.int 5)) (wCons (wC (.int 9)) wNil))) (wCons (wC (.int 2)) wNil)))) (wCons (wTup (wCons (wC (.int 2)) (wCons (wC (.str (S [120]))) (wCons (wC (.int 0)) (wCons (wC (.int 2)) wNil))))) (wCons (wC (.int 4)) wNil)))) (wTup (wCons (wC (.int 1)) (wCons (wTup (wCons (wC (.int 5)) wNil)) (wCons (wC (.int 2)) wNil)))))))
def F_law_k25 : FS := runF 4 w_law_k25
def w_law_no_layout : WS := (wSeq (wUnp [2, 3, 4] (wVar 1))
  (wSeq (wSet 5 (wOp2 gIx (wDat (wLst (wCons (wC .none) (wCons (wOp1 gNeg (wC (.int 1))) (wCons (wC (.bool true)) (wCons (wC (.str (S [49]))) (wCons (wDat (wLst (wCons (wC (.int 1)) wNil))) (wCons (wTup wNil) (wCons (wOp2 gSub (wC (.int 0)) (wOp2 gPow (wC (.int 10)) (wC (.int 39)))) wNil))))))))) (wCall 2 F_law_take (wCons (wVar 0) (wCons (wC (.int 7)) wNil)))))
  (wSeq (wPar [6, 7] (wCons (wCall 2 F_law_take (wCons (wVar 0) (wCons (wOp2 gAdd (wB gLen (wCons (wVar 3) wNil)) (wC (.int 1))) wNil))) (wCons (wOp2 gIx (wDat (wLst (wCons (wC (.int 0)) (wCons (wC .none) (wCons (wOp1 gNeg (wC (.int 1))) (wCons (wC (.bool true)) (wCons (wC (.str (S [49]))) (wCons (wTup (wCons (wC (.int 1)) wNil)) (wCons (wDat (wLst (wCons (wC (.int 2)) wNil))) (wCons (wOp2 gSub (wC (.int 0)) (wOp2 gPow (wC (.int 10)) (wC (.int 39)))) wNil)))))))))) (wCall 2 F_law_take (wCons (wVar 0) (wCons (wC (.int 8)) wNil)))) wNil)))
  (wSeq (wSet 8 (wDat (wLst (wCons (wTup (wCons (wVar 5) (wCons (wVar 3) (wCons (wVar 4) wNil)))) (wCons (wTup (wCons (wVar 2) (wCons (wVar 3) (wCons (wVar 5) wNil)))) (wCons (wTup (wCons (wVar 2) (wCons (wOp2 gAdd (wOp2 gAdd (wSl gSl (wVar 3) wNo (wPart (wVar 6))) (wTup (wCons (wVar 7) wNil))) (wSl gSl (wVar 3) (wPart (wVar 6)) wNo)) (wCons (wVar 4) wNil)))) wNil))))))
  (wSeq (wSet 8 (wOp2 gAdd (wVar 8) (wDat (wLst (wCons (wTup (wCons (wVar 2) (wCons (wDat (wBL gListA (wCons (wVar 3) wNil))) (wCons (wVar 4) wNil)))) (wCons (wTup (wCons (wVar 2) (wCons (wC .none) (wCons (wVar 4) wNil)))) (wCons (wTup (wCons (wVar 2) (wCons (wC (.int 1)) (wCons (wVar 4) wNil)))) (wCons (wTup (wCons (wVar 2) (wCons (wC (.str (S [49]))) (wCons (wVar 4) wNil)))) wNil))))))))
  (wSeq (wSet 8 (wOp2 gAdd (wVar 8) (wDat (wLst (wCons (wDat (wBL gListA (wCons (wVar 1) wNil))) (wCons (wTup (wCons (wVar 2) (wCons (wVar 3) wNil))) (wCons (wOp2 gAdd (wVar 1) (wTup (wCons (wC (.int 0)) wNil))) (wCons (wC .none) (wCons (wC (.int 0)) (wCons (wC (.str (S []))) (wCons (wTup wNil) (wCons (wC (.dict [])) (wCons (wDat (wLst (wCons (wVar 1) wNil))) (wCons (wTup (wCons (wVar 3) (wCons (wVar 2) (wCons (wVar 4) wNil)))) wNil))))))))))))))
  (wRet (wOp2 gIx (wVar 8) (wOp2 gIx (wDat (wLst (wCons (wC (.int 2)) (wCons (wCall 2 F_law_take (wCons (wVar 0) (wCons (wC (.int 17)) wNil))) wNil)))) (wCall 2 F_law_take (wCons (wVar 0) (wCons (wC (.int 2)) wNil))))))))))))
def F_law_no_layout : FS := runF 9 w_law_no_layout
def w_law_sizes_right : WS := (wSeq (wSet 2 (wDat (wLc (.tp [7, 8, 9]) (wIt (wCall 2 F_pieces_afterb (wCons (wVar 0) (wCons (wVar 1) wNil)))) wYes (wOp2 gAdd (wVar 8) (wB gLen (wCons (wVar 9) wNil))) [7, 8, 9])))
  (wSeq (wIfS (wCmpT gNe (wCall 2 F_layout_by_formb (wCons (wVar 0) (wCons (wVar 1) wNil))) (wTup (wCons (wOp2 gIx (wVar 2) (wC (.int 0))) (wCons (wB gTuple (wCons (wSl gSl (wVar 2) (wPart (wC (.int 1))) (wPart (wOp1 gNeg (wC (.int 1))))) wNil)) (wCons (wOp2 gIx (wVar 2) (wOp1 gNeg (wC (.int 1)))) wNil))))) (wRet (wC (.bool false))) wNext)
  (wSeq (wUnp [3, 4, 5] (wVar 0))
  (wSeq (wSet 6 (wTup (wCons (wOp2 gAdd (wVar 3) (wC (.int 3))) (wCons (wB gTuple (wCons (wDat (wLc (.nm 10) (wIt (wVar 4)) wYes (wOp2 gAdd (wVar 10) (wC (.int 3))) [10])) wNil)) (wCons (wVar 5) wNil)))))
  (wRet (wAndV (wCmp gEq (wCall 2 F_layout_by_formb (wCons (wVar 0) (wCons (wTup (wCons (wC (.int 0)) (wCons (wC (.str (S [97, 98, 99]))) (wCons (wC (.int 0)) (wCons (wC (.int 0)) wNil))))) wNil))) (wVar 6)) (wCmp gEq (wCall 2 F_layout_by_formb (wCons (wVar 0) (wCons (wTup (wCons (wC (.int 0)) (wCons (wC (.str (S []))) (wCons (wC (.int 0)) (wCons (wC (.int 0)) wNil))))) wNil))) (wVar 0))))))))
def F_law_sizes_right : FS := runF 11 w_law_sizes_right
def w_law_is_number : WS := (wRet (wAndV (wIsi "int" (wVar 0)) (wAndV (wNotV (wIsi "bool" (wVar 0))) (wCmp gGe (wVar 0) (wVar 1)))))
def F_law_is_number : FS := runF 2 w_law_is_number
def w_law_is_effect : WS := (wSeq (wIfS (wOrT (wNotT (wTru (wIsi "tuple" (wVar 0)))) (wOrT (wCmpT gNe (wB gLen (wCons (wVar 0) wNil)) (wC (.int 4))) (wNotT (wTru (wIsi "tuple" (wOp2 gIx (wVar 0) (wC (.int 2)))))))) (wRet (wC (.bool false))) wNext)
  (wSeq (wUnp [1, 2, 3, 4] (wVar 0))
  (wSeq (wIfS (wOrT (wNotT (wTru (wCall 2 F_law_is_number (wCons (wVar 1) (wCons (wC (.int 0)) wNil))))) (wNotT (wTru (wCall 2 F_law_is_number (wCons (wVar 2) (wCons (wC (.int 0)) wNil)))))) (wRet (wC (.bool false))) wNext)
  (wSeq (wSet 5 (wDat (wLc (.nm 6) (wIt (wVar 3)) (wNotT (wTru (wIsi "str" (wVar 6)))) (wVar 6) [6])))
  (wSeq (wIfS (wCmpT gNeN (wDat (wLc (.nm 6) (wIt (wVar 3)) (wAndT (wTru (wIsi "str" (wVar 6))) (wOrT (wCmpT gNe (wB gLen (wCons (wVar 6) wNil)) (wC (.int 1))) (wNotT (wChainT gLe gLe (wC (.str (S [97]))) (wVar 6) (wC (.str (S [122]))))))) (wVar 6) [6])) (wDat (wLst wNil))) (wRet (wC (.bool false))) wNext)
  (wSeq (wIfS (wCmpT gNeN (wDat (wLc (.nm 6) (wIt (wVar 5)) (wOrT (wNotT (wTru (wCall 2 F_law_is_number (wCons (wVar 6) (wCons (wOp2 gSub (wC (.int 0)) (wVar 1)) wNil))))) (wCmpT gGe (wVar 6) (wVar 2))) (wVar 6) [6])) (wDat (wLst wNil))) (wRet (wC (.bool false))) wNext)
  (wSeq (wIfS (wCmpT gNeN (wDat (wLc (.tp [7, 8]) (wZip (wCons (wVar 5) (wCons (wSl gSl (wVar 5) (wPart (wC (.int 1))) wNo) wNil))) (wCmpT gGe (wVar 7) (wVar 8)) (wC (.int 1)) [7, 8])) (wDat (wLst wNil))) (wRet (wC (.bool false))) wNext)
  (wRet (wAndV (wCall 2 F_law_is_number (wCons (wVar 4) (wCons (wC (.int 0)) wNil))) (wCmp gLe (wVar 4) (wB gLen (wCons (wVar 3) wNil))))))))))))
def F_law_is_effect : FS := runF 9 w_law_is_effect
def w_is_letter : WS := (wRet (wAndV (wIsi "str" (wVar 0)) (wAndV (wCmp gEq (wB gLen (wCons (wVar 0) wNil)) (wC (.int 1))) (wCmp gIn (wVar 0) (wC (.str cLow))))))
def F_is_letter : FS := runF 1 w_is_letter
def w_is_effect : WS := (wSeq (wIfS (wOrT (wNotT (wTru (wIsi "tuple" (wVar 0)))) (wCmpT gNe (wB gLen (wCons (wVar 0) wNil)) (wC (.int 4)))) (wRet (wC (.bool false))) wNext)
  (wSeq (wUnp [1, 2, 3, 4] (wVar 0))
  (wSeq (wIfS (wOrT (wNotT (wTru (wCall 3 F_is_integer (wCons (wVar 1) (wCons (wC (.int 0)) (wCons (wC .none) wNil)))))) (wOrT (wNotT (wTru (wCall 3 F_is_integer (wCons (wVar 2) (wCons (wC (.int 0)) (wCons (wC .none) wNil)))))) (wNotT (wTru (wIsi "tuple" (wVar 3)))))) (wRet (wC (.bool false))) wNext)
  (wSeq (wSet 5 (wOp2 gSub (wC (.int 0)) (wVar 1)))
  (wSeq (wFor (.nm 6) (wIt (wVar 3)) (wIfS (wNotT (wTru (wCall 1 F_is_letter (wCons (wVar 6) wNil)))) (wSeq (wIfS (wNotT (wTru (wCall 3 F_is_integer (wCons (wVar 6) (wCons (wVar 5) (wCons (wOp2 gSub (wVar 2) (wC (.int 1))) wNil)))))) (wRet (wC (.bool false))) wNext)
  (wSet 5 (wOp2 gAdd (wVar 6) (wC (.int 1))))) wNext))
  (wRet (wCall 3 F_is_integer (wCons (wVar 4) (wCons (wC (.int 0)) (wCons (wB gLen (wCons (wVar 3) wNil)) wNil))))))))))
def F_is_effect : FS := runF 7 w_is_effect
def w_law_right_k28 : WS := (wSeq (wPar [1, 2] (wCons (wB gReprA (wCons (wVar 0) wNil)) (wCons (wCall 1 F_law_is_effect (wCons (wVar 0) wNil)) wNil)))
  (wRet (wAndV (wCmp gEq (wB gRepr (wCons (wDat (wLst (wCons (wCall 1 F_is_effect (wCons (wVar 0) wNil)) (wCons (wCallK0 1 1 F_is_effect [0] (wCons (wVar 0) wNil)) wNil)))) wNil)) (wB gRepr (wCons (wDat (wLst (wCons (wVar 2) (wCons (wVar 2) wNil)))) wNil))) (wCmp gEq (wB gReprA (wCons (wVar 0) wNil)) (wVar 1)))))
def F_law_right_k28 : FS := runF 3 w_law_right_k28
def w_law_any_effect : WS := (wSeq (wPar [3, 4, 5] (wCons (wLoc (wLst wNil)) (wCons (wOp2 gSub (wC (.int 0)) (wCall 2 F_law_draw_v2 (wCons (wVar 0) (wCons (wVar 2) wNil)))) (wCons (wC (.int 0)) wNil))))
  (wSeq (wSet 6 (wOp2 gSub (wC (.int 0)) (wVar 4)))
  (wSeq (wFor (.nm 7) (wRng rng1 (wCons (wCall 2 F_law_draw_v2 (wCons (wVar 0) (wCons (wOp2 gAdd (wVar 1) (wC (.int 1))) wNil))) wNil)) (wIfS (wCmpT gEq (wCall 2 F_law_draw_v2 (wCons (wVar 0) (wCons (wC (.int 3)) wNil))) (wC (.int 0))) (wDrop (wU uAppend (wVar 3) (wCons (wOp2 gIx (wC (.str (S [97, 98, 99, 120, 121, 122]))) (wCall 2 F_law_draw_v2 (wCons (wVar 0) (wCons (wC (.int 6)) wNil)))) wNil))) (wSeq (wSet 4 (wOp2 gAdd (wVar 4) (wOp2 gIx (wDat (wLst (wCons (wC (.int 0)) (wCons (wC (.int 0)) (wCons (wC (.int 1)) (wCons (wCall 2 F_law_draw_v2 (wCons (wVar 0) (wCons (wVar 2) wNil))) wNil)))))) (wCall 2 F_law_draw_v2 (wCons (wVar 0) (wCons (wC (.int 4)) wNil))))))
  (wSeq (wDrop (wU uAppend (wVar 3) (wCons (wVar 4) wNil)))
  (wSet 4 (wOp2 gAdd (wVar 4) (wC (.int 1))))))))
  (wSeq (wSet 8 (wB gMax (wCons (wC (.int 0)) (wCons (wOp2 gAdd (wVar 4) (wOp2 gIx (wDat (wLst (wCons (wC (.int 0)) (wCons (wC (.int 0)) (wCons (wCall 2 F_law_draw_v2 (wCons (wVar 0) (wCons (wVar 2) wNil))) wNil))))) (wCall 2 F_law_draw_v2 (wCons (wVar 0) (wCons (wC (.int 3)) wNil))))) wNil))))
  (wRet (wTup (wCons (wVar 6) (wCons (wVar 8) (wCons (wB gTuple (wCons (wVar 3) wNil)) (wCons (wCall 2 F_law_draw_v2 (wCons (wVar 0) (wCons (wOp2 gAdd (wB gLen (wCons (wVar 3) wNil)) (wC (.int 1))) wNil))) wNil))))))))))
def F_law_any_effect : FS := runF 9 w_law_any_effect
def w_law_changed : WS := (wSeq (wUnp [2, 3, 4, 5] (wVar 1))
  (wSeq (wSet 6 (wDat (wLst (wCons (wC .none) (wCons (wC (.bool true)) (wCons (wC (.bool false)) (wCons (wC (.str (S [65]))) (wCons (wC (.str (S [97, 98]))) (wCons (wC (.str (S []))) (wCons (wC (.str (S [45]))) (wCons (wOp1 gNeg (wC (.int 1))) (wCons (wC (.int 0)) (wCons (wC (.int 1)) (wCons (wVar 2) (wCons (wVar 3) (wCons (wOp2 gSub (wOp2 gSub (wC (.int 0)) (wVar 2)) (wC (.int 1))) (wCons (wOp2 gSub (wVar 3) (wC (.int 1))) wNil)))))))))))))))))
  (wSeq (wSet 6 (wOp2 gAdd (wVar 6) (wDat (wLst (wCons (wDat (wLst (wCons (wC (.int 1)) wNil))) (wCons (wTup (wCons (wC (.int 1)) wNil)) (wCons (wOp2 gPow (wC (.int 10)) (wC (.int 39))) (wCons (wOp2 gIx (wDat (wLst (wCons (wC (.str (S [123]))) (wCons (wC (.str (S [96]))) (wCons (wC (.dict [])) wNil))))) (wCall 2 F_law_draw_v2 (wCons (wVar 0) (wCons (wC (.int 3)) wNil)))) wNil))))))))
  (wSeq (wPar [7, 8, 9] (wCons (wCall 2 F_law_draw_v2 (wCons (wVar 0) (wCons (wOp2 gAdd (wB gLen (wCons (wVar 4) wNil)) (wC (.int 1))) wNil))) (wCons (wCall 2 F_law_draw_v2 (wCons (wVar 0) (wCons (wC (.int 9)) wNil))) (wCons (wOp2 gIx (wVar 6) (wCall 2 F_law_draw_v2 (wCons (wVar 0) (wCons (wC (.int 18)) wNil)))) wNil))))
  (wSeq (wIfS (wCmpT gEq (wVar 8) (wC (.int 0))) (wRet (wTup (wCons (wVar 9) (wCons (wVar 3) (wCons (wVar 4) (wCons (wVar 5) wNil)))))) wNext)
  (wSeq (wIfS (wCmpT gEq (wVar 8) (wC (.int 1))) (wRet (wTup (wCons (wVar 2) (wCons (wVar 9) (wCons (wVar 4) (wCons (wVar 5) wNil)))))) wNext)
  (wSeq (wIfS (wCmpT gEq (wVar 8) (wC (.int 2))) (wRet (wTup (wCons (wVar 2) (wCons (wVar 3) (wCons (wVar 4) (wCons (wVar 9) wNil)))))) wNext)
  (wSeq (wIfS (wCmpT gEq (wVar 8) (wC (.int 3))) (wRet (wTup (wCons (wVar 2) (wCons (wVar 3) (wCons (wOp2 gAdd (wOp2 gAdd (wSl gSl (wVar 4) wNo (wPart (wVar 7))) (wTup (wCons (wVar 9) wNil))) (wSl gSl (wVar 4) (wPart (wVar 7)) wNo)) (wCons (wVar 5) wNil)))))) wNext)
  (wSeq (wIfS (wCmpT gEq (wVar 8) (wC (.int 4))) (wRet (wTup (wCons (wVar 2) (wCons (wVar 3) (wCons (wOp2 gAdd (wSl gSl (wVar 4) wNo (wPart (wVar 7))) (wSl gSl (wVar 4) (wPart (wOp2 gAdd (wVar 7) (wC (.int 1)))) wNo)) (wCons (wVar 5) wNil)))))) wNext)
  (wSeq (wIfS (wCmpT gEq (wVar 8) (wC (.int 5))) (wRet (wTup (wCons (wVar 2) (wCons (wVar 3) (wCons (wOp2 gAdd (wOp2 gAdd (wSl gSl (wVar 4) wNo (wPart (wVar 7))) (wOp2 gMulT (wSl gSl (wVar 4) (wPart (wVar 7)) (wPart (wOp2 gAdd (wVar 7) (wC (.int 1))))) (wC (.int 2)))) (wSl gSl (wVar 4) (wPart (wOp2 gAdd (wVar 7) (wC (.int 1)))) wNo)) (wCons (wVar 5) wNil)))))) wNext)
  (wSeq (wIfS (wCmpT gEq (wVar 8) (wC (.int 6))) (wRet (wTup (wCons (wVar 2) (wCons (wVar 3) (wCons (wOp2 gAdd (wOp2 gAdd (wSl gSl (wVar 4) wNo (wPart (wVar 7))) (wRevT (wSl gSl (wVar 4) (wPart (wVar 7)) (wPart (wOp2 gAdd (wVar 7) (wC (.int 2))))))) (wSl gSl (wVar 4) (wPart (wOp2 gAdd (wVar 7) (wC (.int 2)))) wNo)) (wCons (wVar 5) wNil)))))) wNext)
  (wRet (wOp2 gIx (wDat (wLst (wCons (wTup (wCons (wVar 2) (wCons (wVar 3) (wCons (wDat (wBL gListA (wCons (wVar 4) wNil))) (wCons (wVar 5) wNil))))) (wCons (wDat (wLst (wCons (wVar 2) (wCons (wVar 3) (wCons (wVar 4) (wCons (wVar 5) wNil)))))) (wCons (wOp2 gAdd (wVar 1) (wTup (wCons (wC (.int 0)) wNil))) wNil))))) (wCall 2 F_law_draw_v2 (wCons (wVar 0) (wCons (wC (.int 3)) wNil))))))))))))))))
def F_law_changed : FS := runF 10 w_law_changed
def w_law_k28 : WS := (wSeq (wFor (.nm 1) (wIt (wDat (wLst (wCons (wC .none) (wCons (wC (.int 0)) (wCons (wC (.str (S []))) (wCons (wTup wNil) (wCons (wDat (wLst wNil)) (wCons (wC (.dict [])) (wCons (wC (.bool true)) (wCons (wTup (wCons (wC (.int 0)) (wCons (wC (.int 0)) (wCons (wTup wNil) (wCons (wC (.int 0)) wNil))))) (wCons (wTup (wCons (wC (.int 0)) (wCons (wC (.int 0)) (wCons (wTup wNil) (wCons (wC (.int 1)) wNil))))) (wCons (wTup (wCons (wC (.int 0)) (wCons (wC (.int 0)) (wCons (wTup (wCons (wC (.str (S [120]))) wNil)) (wCons (wC (.int 1)) wNil))))) (wCons (wTup (wCons (wC (.int 1)) (wCons (wC (.int 0)) (wCons (wTup (wCons (wC (.int 0)) wNil)) (wCons (wC (.int 0)) wNil))))) wNil)))))))))))))) (wIfS (wNotT (wTru (wCall 1 F_law_right_k28 (wCons (wVar 1) wNil)))) (wRet (wC (.bool false))) wNext))
  (wSeq (wFor (.nm 2) (wRng rng1 (wCons (wB gMax (wCons (wC (.int 1)) (wCons (wB gMin (wCons (wC (.int 6)) (wCons (wScrLen (wVar 0)) wNil))) wNil))) wNil)) (wSeq (wSet 3 (wCall 1 F_law_source_v1 (wCons (wOp2 gAdd (wOp2 gMulC (wCall 2 F_law_cell (wCons (wVar 0) (wCons (wVar 2) wNil))) (wC (.int 3))) (wC (.int 28))) wNil)))
  (wFor (.nm 4) (wRng rng1 (wCons (wC (.int 6)) wNil)) (wSeq (wSet 5 (wCall 1 F_far_effect (wCons (wCall 2 F_law_keys_v1 (wCons (wVar 3) (wCons (wC (.int 16)) wNil))) wNil)))
  (wSeq (wSet 6 (wCall 3 F_law_any_effect (wCons (wVar 3) (wCons (wOp2 gIx (wDat (wLst (wCons (wC (.int 18)) (wCons (wC (.int 78)) wNil)))) (wOp2 gMod (wVar 4) (wC (.int 2)))) (wCons (wOp2 gIx (wDat (wLst (wCons (wC (.int 3)) (wCons (wOp2 gPow (wC (.int 10)) (wC (.int 37))) wNil)))) (wCall 2 F_law_draw_v2 (wCons (wVar 3) (wCons (wC (.int 2)) wNil)))) wNil)))))
  (wFor (.nm 7) (wIt (wDat (wLst (wCons (wVar 5) (wCons (wVar 6) wNil))))) (wSeq (wIfS (wCmpT gIsNot (wCall 1 F_is_effect (wCons (wVar 7) wNil)) (wC (.bool true))) (wRet (wC (.bool false))) wNext)
  (wFor (.nm 8) (wRng rng1 (wCons (wC (.int 4)) wNil)) (wIfS (wNotT (wTru (wCall 1 F_law_right_k28 (wCons (wCall 2 F_law_changed (wCons (wVar 3) (wCons (wVar 7) wNil))) wNil)))) (wRet (wC (.bool false))) wNext)))))))))
  (wRet (wC (.bool true)))))
def F_law_k28 : FS := runF 9 w_law_k28
def w_law_next : WS := (wSeq (wIfS (wCmpT gEq (wVar 2) (wC (.str (S [60])))) (wRet (wTup (wCons (wVar 0) (wCons (wOp2 gSub (wVar 1) (wC (.int 1))) wNil)))) wNext)
  (wSeq (wIfS (wCmpT gEq (wVar 2) (wC (.str (S [62])))) (wRet (wTup (wCons (wVar 0) (wCons (wOp2 gAdd (wVar 1) (wC (.int 1))) wNil)))) wNext)
  (wSeq (wIfS (wCmpT gEq (wVar 2) (wC (.str (S [45])))) (wRet (wTup (wCons (wOp2 gAdd (wSl gSl (wVar 0) wNo (wPart (wOp2 gSub (wVar 1) (wC (.int 1))))) (wSl gSl (wVar 0) (wPart (wVar 1)) wNo)) (wCons (wOp2 gSub (wVar 1) (wC (.int 1))) wNil)))) wNext)
  (wSeq (wIfS (wCmpT gEq (wVar 2) (wC (.str (S [35])))) (wRet (wTup (wCons (wOp2 gAdd (wSl gSl (wVar 0) wNo (wPart (wVar 1))) (wSl gSl (wVar 0) (wPart (wOp2 gAdd (wVar 1) (wC (.int 1)))) wNo)) (wCons (wVar 1) wNil)))) wNext)
  (wRet (wTup (wCons (wOp2 gAdd (wOp2 gAdd (wSl gSl (wVar 0) wNo (wPart (wVar 1))) (wTup (wCons (wVar 2) wNil))) (wSl gSl (wVar 0) (wPart (wVar 1)) wNo)) (wCons (wOp2 gAdd (wVar 1) (wC (.int 1))) wNil))))))))
def F_law_next : FS := runF 3 w_law_next
def w_law_levels : WS := (wSeq (wPar [1, 2, 3] (wCons (wDic1 (wTup (wCons (wTupRg (wRg2 (wOp1 gNeg (wC (.int 6))) (wC (.int 6)))) (wCons (wC (.int 6)) wNil))) (wC (.bool true))) (wCons (wLoc (wLst wNil)) (wCons (wC (.dict [])) wNil))))
  (wSeq (wFor (.nm 4) (wRng rng1 (wCons (wOp2 gAdd (wVar 0) (wC (.int 1))) wNil)) (wSeq (wDrop (wU uAppend (wVar 2) (wCons (wDat (wBL gListA (wCons (wVar 1) wNil))) wNil)))
  (wSeq (wFor (.nm 5) (wIt (wVar 1)) (wSetI (wVar 3) (wVar 5) (wC (.bool true))))
  (wSeq (wSet 6 (wC (.dict [])))
  (wSeq (wFor (.tp [7, 8]) (wIt (wVar 1)) (wFor (.nm 9) (wIt (wDat (wLst (wCons (wC (.str (S [97]))) (wCons (wC (.str (S [98]))) (wCons (wC (.str (S [45]))) (wCons (wC (.str (S [35]))) (wCons (wC (.str (S [60]))) (wCons (wC (.str (S [62]))) wNil))))))))) (wSeq (wSet 5 (wCall 3 F_law_next (wCons (wVar 7) (wCons (wVar 8) (wCons (wVar 9) wNil)))))
  (wIfS (wCmpT gNotIn (wVar 5) (wVar 3)) (wSetI (wVar 6) (wVar 5) (wC (.bool true))) wNext))))
  (wSet 1 (wVar 6)))))))
  (wRet (wFrz (wVar 2)))))
def F_law_levels : FS := runF 10 w_law_levels
def w_check_effect : WS := (wIfS (wNotT (wTru (wCall 1 F_is_effect (wCons (wVar 0) wNil)))) (wRaise "InvalidEffect") wNext)
def F_check_effect : FS := runF 1 w_check_effect
def w_law_cut_marks : WS := (wSeq (wSet 4 (wDat (wBL gListA (wCons (wVar 2) wNil))))
  (wSeq (wWhile (wAndT (wCmpT gGt (wVar 0) (wC (.int 0))) (wAndT (wCmpT gNe (wVar 4) (wDat (wLst wNil))) (wAndT (wCmpT gEq (wOp2 gIx (wVar 4) (wC (.int 0))) (wOp2 gSub (wC (.int 0)) (wVar 0))) (wCmpT gGt (wVar 3) (wC (.int 0)))))) (wPar [4, 0, 3] (wCons (wSl gSl (wVar 4) (wPart (wC (.int 1))) wNo) (wCons (wOp2 gSub (wVar 0) (wC (.int 1))) (wCons (wOp2 gSub (wVar 3) (wC (.int 1))) wNil)))))
  (wSeq (wWhile (wAndT (wCmpT gGt (wVar 1) (wC (.int 0))) (wAndT (wCmpT gNe (wVar 4) (wDat (wLst wNil))) (wAndT (wCmpT gEq (wOp2 gIx (wVar 4) (wOp1 gNeg (wC (.int 1)))) (wOp2 gSub (wVar 1) (wC (.int 1)))) (wCmpT gLt (wVar 3) (wB gLen (wCons (wVar 4) wNil)))))) (wPar [4, 1] (wCons (wSl gSl (wVar 4) wNo (wPart (wOp1 gNeg (wC (.int 1))))) (wCons (wOp2 gSub (wVar 1) (wC (.int 1))) wNil))))
  (wRet (wTup (wCons (wVar 0) (wCons (wVar 1) (wCons (wB gTuple (wCons (wVar 4) wNil)) (wCons (wVar 3) wNil)))))))))
def F_law_cut_marks : FS := runF 5 w_law_cut_marks
def w_law_completed : WS := (wSeq (wUnp [3, 4, 5, 6] (wVar 0))
  (wSeq (wSet 7 (wB gTuple (wCons (wDat (wLc (.nm 9) (wRng rng1 (wCons (wVar 1) wNil)) wYes (wOp2 gAdd (wOp2 gSub (wOp2 gSub (wC (.int 0)) (wVar 3)) (wVar 1)) (wVar 9)) [9])) wNil)))
  (wSeq (wSet 8 (wB gTuple (wCons (wDat (wLc (.nm 9) (wRng rng1 (wCons (wVar 2) wNil)) wYes (wOp2 gAdd (wVar 4) (wVar 9)) [9])) wNil)))
  (wRet (wTup (wCons (wOp2 gAdd (wVar 3) (wVar 1)) (wCons (wOp2 gAdd (wVar 4) (wVar 2)) (wCons (wOp2 gAdd (wOp2 gAdd (wVar 7) (wVar 5)) (wVar 8)) (wCons (wOp2 gAdd (wVar 6) (wVar 1)) wNil)))))))))
def F_law_completed : FS := runF 10 w_law_completed
def w_law_fewest : WS := (wSeq (wUnp [1, 2, 3, 4] (wVar 0))
  (wSeq (wSet 5 (wDat (wLc (.nm 12) (wIt (wVar 3)) (wTru (wCall 1 F_law_is_mark (wCons (wVar 12) wNil))) (wVar 12) [12])))
  (wSeq (wPar [6, 7] (wCons (wOp2 gSub (wB gLen (wCons (wVar 3) wNil)) (wB gLen (wCons (wVar 5) wNil))) (wCons (wB gLen (wCons (wDat (wLc (.nm 12) (wIt (wSl gSl (wVar 3) (wPart (wVar 4)) wNo)) (wNotT (wTru (wCall 1 F_law_is_mark (wCons (wVar 12) wNil)))) (wC (.int 1)) [12])) wNil)) wNil)))
  (wSeq (wPar [8, 9] (wCons (wB gLen (wCons (wDat (wLc (.nm 12) (wIt (wVar 5)) (wCmpT gLt (wVar 12) (wC (.int 0))) (wC (.int 1)) [12])) wNil)) (wCons (wB gLen (wCons (wDat (wLc (.nm 12) (wIt (wSl gSl (wVar 3) wNo (wPart (wVar 4)))) (wTru (wCall 1 F_law_is_mark (wCons (wVar 12) wNil))) (wC (.int 1)) [12])) wNil)) wNil)))
  (wSeq (wPar [10, 11] (wCons (wLoc (wLst (wCons (wVar 8) (wCons (wVar 9) wNil)))) (wCons (wC (.int 0)) wNil)))
  (wSeq (wFor (.nm 12) (wIt (wVar 3)) (wSeq (wIfS (wNotT (wTru (wCall 1 F_law_is_mark (wCons (wVar 12) wNil)))) (wDrop (wU uAppend (wVar 10) (wCons (wVar 11) wNil))) wNext)
  (wSet 11 (wOp2 gAdd (wVar 11) (wB gInt (wCons (wCall 1 F_law_is_mark (wCons (wVar 12) wNil)) wNil))))))
  (wSeq (wSet 13 (wDat (wOpL gAddL (wDat (wOpL gAddL (wDat (wLst (wCons (wOp2 gSub (wOp2 gSub (wC (.int 0)) (wVar 1)) (wC (.int 1))) wNil))) (wVar 5))) (wDat (wLst (wCons (wVar 2) wNil))))))
  (wSeq (wSet 10 (wLoc (wOpL gAddL (wVar 10) (wDat (wLc (.nm 17) (wRng rng1 (wCons (wOp2 gAdd (wB gLen (wCons (wVar 5) wNil)) (wC (.int 1))) wNil)) (wCmpT gGt (wOp2 gSub (wOp2 gIx (wVar 13) (wOp2 gAdd (wVar 17) (wC (.int 1)))) (wOp2 gIx (wVar 13) (wVar 17))) (wC (.int 1))) (wVar 17) [17])))))
  (wSeq (wPar [14, 15] (wCons (wB gMin (wCons (wVar 8) (wCons (wVar 9) wNil))) (wCons (wB gMax (wCons (wVar 8) (wCons (wVar 9) wNil))) wNil)))
  (wSeq (wSet 16 (wOp2 gAdd (wOp2 gAdd (wOp2 gSub (wVar 15) (wVar 14)) (wOp2 gMul (wC (.int 2)) (wOp2 gSub (wVar 14) (wB gMin (wCons (wVar 10) wNil))))) (wOp2 gMul (wC (.int 2)) (wOp2 gSub (wB gMax (wCons (wVar 10) wNil)) (wVar 15)))))
  (wRet (wOp2 gAdd (wOp2 gAdd (wOp2 gSub (wOp2 gAdd (wOp2 gAdd (wVar 6) (wVar 1)) (wVar 2)) (wB gLen (wCons (wVar 5) wNil))) (wVar 7)) (wVar 16)))))))))))))
def F_law_fewest : FS := runF 18 w_law_fewest
def w_law_played : WS := (wSeq (wUnp [2, 3, 4, 5] (wVar 1))
  (wSeq (wUnp [6, 7] (wCall 3 F_law_pressed_v1 (wCons (wVar 0) (wCons (wOp2 gAdd (wVar 2) (wC (.int 3))) (wCons (wOp2 gAdd (wVar 3) (wC (.int 3))) wNil)))))
  (wSeq (wSet 8 (wDat (wLst (wCons (wOp2 gSub (wOp2 gSub (wC (.int 0)) (wVar 2)) (wC (.int 3))) (wCons (wOp2 gSub (wOp2 gSub (wC (.int 0)) (wVar 2)) (wC (.int 2))) (wCons (wOp2 gSub (wOp2 gSub (wC (.int 0)) (wVar 2)) (wC (.int 1))) wNil))))))
  (wRet (wCmp gEq (wTup (wCons (wVar 6) (wCons (wVar 7) wNil))) (wTup (wCons (wOp2 gAdd (wOp2 gAdd (wVar 8) (wDat (wBL gListA (wCons (wVar 4) wNil)))) (wDat (wLst (wCons (wVar 3) (wCons (wOp2 gAdd (wVar 3) (wC (.int 1))) (wCons (wOp2 gAdd (wVar 3) (wC (.int 2))) wNil)))))) (wCons (wOp2 gAdd (wVar 5) (wC (.int 3))) wNil))))))))
def F_law_played : FS := runF 9 w_law_played
def w_law_no_effects : WS := (wSeq (wUnp [2, 3, 4, 5] (wVar 1))
  (wSeq (wSet 6 (wCall 2 F_law_draw_v2 (wCons (wVar 0) (wCons (wOp2 gAdd (wB gLen (wCons (wVar 4) wNil)) (wC (.int 1))) wNil))))
  (wSeq (wSet 7 (wDat (wLst (wCons (wC .none) (wCons (wC (.bool true)) (wCons (wC (.str (S [65]))) (wCons (wC (.str (S [97, 98]))) (wCons (wC (.str (S []))) (wCons (wC (.str (S [45]))) (wCons (wOp2 gSub (wOp2 gSub (wC (.int 0)) (wVar 2)) (wC (.int 1))) (wCons (wVar 3) (wCons (wOp2 gAdd (wVar 3) (wOp2 gPow (wC (.int 10)) (wC (.int 39)))) (wCons (wDat (wLst (wCons (wC (.int 1)) wNil))) (wCons (wTup (wCons (wC (.int 1)) wNil)) (wCons (wC (.dict [])) (wCons (wC (.str (S [49]))) wNil))))))))))))))))
  (wSeq (wSet 8 (wDat (wLc (.nm 9) (wIt (wVar 7)) wYes (wTup (wCons (wVar 2) (wCons (wVar 3) (wCons (wOp2 gAdd (wOp2 gAdd (wSl gSl (wVar 4) wNo (wPart (wVar 6))) (wTup (wCons (wVar 9) wNil))) (wSl gSl (wVar 4) (wPart (wVar 6)) wNo)) (wCons (wVar 5) wNil))))) [9])))
  (wSeq (wSet 8 (wOp2 gAdd (wVar 8) (wDat (wLc (.nm 9) (wIt (wDat (wLst (wCons (wOp1 gNeg (wC (.int 1))) (wCons (wC .none) (wCons (wC (.bool true)) (wCons (wC (.str (S [49]))) (wCons (wDat (wLst (wCons (wC (.int 0)) wNil))) (wCons (wOp2 gSub (wC (.int 0)) (wOp2 gPow (wC (.int 10)) (wC (.int 39)))) wNil))))))))) wYes (wTup (wCons (wVar 9) (wCons (wVar 3) (wCons (wVar 4) (wCons (wVar 5) wNil))))) [9]))))
  (wSeq (wSet 8 (wOp2 gAdd (wVar 8) (wDat (wLc (.nm 9) (wIt (wDat (wLst (wCons (wOp1 gNeg (wC (.int 1))) (wCons (wC .none) (wCons (wC (.bool false)) (wCons (wC (.str (S [48]))) (wCons (wTup (wCons (wC (.int 0)) wNil)) wNil)))))))) wYes (wTup (wCons (wVar 2) (wCons (wVar 9) (wCons (wVar 4) (wCons (wVar 5) wNil))))) [9]))))
  (wSeq (wSet 8 (wOp2 gAdd (wVar 8) (wDat (wLc (.nm 9) (wIt (wDat (wLst (wCons (wOp1 gNeg (wC (.int 1))) (wCons (wOp2 gAdd (wB gLen (wCons (wVar 4) wNil)) (wC (.int 1))) (wCons (wC .none) (wCons (wC (.bool true)) (wCons (wC (.str (S [48]))) (wCons (wDat (wLst (wCons (wC (.int 0)) wNil))) (wCons (wOp2 gPow (wC (.int 10)) (wC (.int 39))) wNil)))))))))) wYes (wTup (wCons (wVar 2) (wCons (wVar 3) (wCons (wVar 4) (wCons (wVar 9) wNil))))) [9]))))
  (wSeq (wSet 8 (wOp2 gAdd (wVar 8) (wDat (wLst (wCons (wTup (wCons (wVar 2) (wCons (wVar 3) (wCons (wDat (wBL gListA (wCons (wVar 4) wNil))) (wCons (wVar 5) wNil))))) (wCons (wDat (wLst (wCons (wVar 2) (wCons (wVar 3) (wCons (wVar 4) (wCons (wVar 5) wNil)))))) (wCons (wSl gSl (wVar 1) wNo (wPart (wC (.int 3)))) (wCons (wVar 4) (wCons (wVar 2) wNil)))))))))
  (wRet (wOp2 gAdd (wVar 8) (wDat (wLst (wCons (wOp2 gAdd (wVar 1) (wTup (wCons (wVar 5) wNil))) (wCons (wTup (wCons (wVar 2) (wCons (wVar 3) (wCons (wVar 4) wNil)))) (wCons (wC .none) (wCons (wC (.str (S []))) (wCons (wC (.str (S [120]))) (wCons (wC (.dict [])) (wCons (wTup wNil) (wCons (wDat (wLst wNil)) (wCons (wC (.bool true)) (wCons (wTup (wCons (wVar 3) (wCons (wVar 2) wNil))) wNil))))))))))))))))))))))
def F_law_no_effects : FS := runF 10 w_law_no_effects
def w_law_list : WS := (wSeq (wPar [2, 3] (wCons (wCall 2 F_law_take (wCons (wVar 0) (wCons (wC (.int 3)) wNil))) (wCons (wC (.str (S []))) wNil)))
  (wSeq (wFor (.nm 4) (wRng rng1 (wCons (wCall 2 F_law_take (wCons (wVar 0) (wCons (wOp2 gAdd (wVar 1) (wC (.int 1))) wNil))) wNil)) (wSeq (wSet 5 (wOp2 gIx (wDat (wLst (wCons (wC (.str (S [97, 98, 45, 35, 60, 62]))) (wCons (wC (.str (S [120, 121, 122, 60, 62]))) (wCons (wC (.str (S [99, 45, 35, 45, 35, 60, 60, 62, 62]))) wNil))))) (wVar 2)))
  (wSet 3 (wOp2 gAdd (wVar 3) (wOp2 gIx (wVar 5) (wCall 2 F_law_take (wCons (wVar 0) (wCons (wB gLen (wCons (wVar 5) wNil)) wNil))))))))
  (wRet (wVar 3))))
def F_law_list : FS := runF 6 w_law_list
def w_law_due_v2 : WS := (wSeq (wUnp [3, 4] (wCall 3 F_law_pressed_v2 (wCons (wDat (wLc (.nm 5) (wIt (wVar 0)) wYes (wVar 5) [5])) (wCons (wDat (wBL gListA (wCons (wVar 1) wNil))) (wCons (wVar 2) wNil)))))
  (wRet (wTup (wCons (wM "str" mJoin (wC (.str (S []))) (wCons (wVar 3) wNil)) (wCons (wB gTuple (wCons (wVar 4) wNil)) wNil)))))
def F_law_due_v2 : FS := runF 6 w_law_due_v2
def w_law_written : WS := (wSeq (wSet 2 (wC (.str (S []))))
  (wSeq (wFor (.nm 3) (wRng rng1 (wCons (wOp2 gAdd (wB gLen (wCons (wVar 0) wNil)) (wC (.int 1))) wNil)) (wSet 2 (wOp2 gAdd (wOp2 gAdd (wVar 2) (wOp2 gMul (wC (.str (S [124]))) (wB gInt (wCons (wCmp gIn (wVar 3) (wVar 1)) wNil)))) (wSl gSl (wVar 0) (wPart (wVar 3)) (wPart (wOp2 gAdd (wVar 3) (wC (.int 1))))))))
  (wRet (wVar 2))))
def F_law_written : FS := runF 4 w_law_written
def w_format_state : WS := (wSeq (wDrop (wCall 1 F_check_text (wCons (wVar 0) wNil)))
  (wSeq (wDrop (wCall 2 F_check_cursors (wCons (wVar 0) (wCons (wVar 1) wNil))))
  (wRet (wM "str" mJoin (wC (.str (S [124]))) (wCons (wCall 2 F_stretches_of (wCons (wVar 0) (wCons (wVar 1) wNil))) wNil)))))
def F_format_state : FS := runF 2 w_format_state
def w_law_state_in : WS := (wSeq (wIfS (wOrT (wNotT (wTru (wIsi "str" (wVar 0)))) (wCmpT gLt (wM "str" mCount (wVar 0) (wCons (wC (.str (S [124]))) wNil)) (wC (.int 1)))) (wRet (wC .none)) wNext)
  (wSeq (wPar [1, 2] (wCons (wC (.str (S []))) (wCons (wLoc (wLst wNil)) wNil)))
  (wSeq (wFor (.nm 3) (wIt (wVar 0)) (wIfS (wCmpT gEq (wVar 3) (wC (.str (S [124])))) (wDrop (wU uAppend (wVar 2) (wCons (wB gLen (wCons (wVar 1) wNil)) wNil))) (wIfS (wOrT (wChainT gLe gLe (wC (.str (S [97]))) (wVar 3) (wC (.str (S [122])))) (wChainT gLe gLe (wC (.str (S [65]))) (wVar 3) (wC (.str (S [90]))))) (wSet 1 (wOp2 gAdd (wVar 1) (wVar 3))) (wRet (wC .none)))))
  (wRet (wIf (wCmpT gEq (wDat (wSortS (wVar 2))) (wVar 2)) (wTup (wCons (wVar 1) (wCons (wB gTuple (wCons (wVar 2) wNil)) wNil))) (wC .none))))))
def F_law_state_in : FS := runF 4 w_law_state_in
def w_is_number_word : WS := (wSeq (wIfS (wOrT (wCmpT gEq (wVar 0) (wC (.str (S [])))) (wNotT (wTru (wB gAll (wCons (wDat (wLc (.nm 1) (wIt (wVar 0)) wYes (wCmp gIn (wVar 1) (wC (.str (S [48, 49, 50, 51, 52, 53, 54, 55, 56, 57])))) [1])) wNil))))) (wRet (wC (.bool false))) wNext)
  (wRet (wOrV (wCmp gEq (wVar 0) (wC (.str (S [48])))) (wCmp gNe (wOp2 gIx (wVar 0) (wC (.int 0))) (wC (.str (S [48])))))))
def F_is_number_word : FS := runF 2 w_is_number_word
def w_run_in : WS := (wSeq (wIfS (wOrT (wCmpT gLt (wB gLen (wCons (wVar 0) wNil)) (wC (.int 3))) (wOrT (wNotT (wTru (wCall 1 F_is_key (wCons (wOp2 gIx (wVar 0) (wC (.int 0))) wNil)))) (wOrT (wCmpT gNe (wOp2 gIx (wVar 0) (wC (.int 1))) (wC (.str (S [120])))) (wNotT (wTru (wCall 1 F_is_number_word (wCons (wSl gSl (wVar 0) (wPart (wC (.int 2))) wNo) wNil))))))) (wRet (wC .none)) wNext)
  (wRet (wTup (wCons (wOp2 gIx (wVar 0) (wC (.int 0))) (wCons (wB gInt (wCons (wSl gSl (wVar 0) (wPart (wC (.int 2))) wNo) wNil)) wNil)))))
def F_run_in : FS := runF 1 w_run_in
def w_format_runs : WS := (wSeq (wDrop (wCall 1 F_check_runs (wCons (wVar 0) wNil)))
  (wRet (wM "str" mJoin (wC (.str (S [32]))) (wCons (wDat (wLc (.tp [1, 2]) (wIt (wVar 0)) wYes (wOp2 gAdd (wOp2 gAdd (wVar 1) (wC (.str (S [120])))) (wB gStr (wCons (wVar 2) wNil))) [1, 2])) wNil))))
def F_format_runs : FS := runF 3 w_format_runs
def w_law_some : WS := (wSeq (wSet 1 (wLoc (wLst wNil)))
  (wSeq (wSet 2 (wCall 2 F_law_draw (wCons (wVar 0) (wCons (wC (.int 3)) wNil))))
  (wSeq (wFor (.nm 3) (wRng rng1 (wCons (wOp2 gIx (wDat (wLst (wCons (wCall 2 F_law_draw (wCons (wVar 0) (wCons (wC (.int 4)) wNil))) (wCons (wCall 2 F_law_draw (wCons (wVar 0) (wCons (wC (.int 21)) wNil))) (wCons (wC (.int 79)) wNil))))) (wVar 2)) wNil)) (wSeq (wSet 4 (wOp2 gIx (wC (.str (S [97, 98, 120, 122, 45, 35, 60, 62, 120]))) (wCall 2 F_law_draw (wCons (wVar 0) (wCons (wC (.int 9)) wNil)))))
  (wSeq (wSet 5 (wDat (wLst (wCons (wCall 2 F_law_draw (wCons (wVar 0) (wCons (wC (.int 3)) wNil))) (wCons (wCall 2 F_law_draw (wCons (wVar 0) (wCons (wC (.int 100)) wNil))) (wCons (wCall 2 F_law_draw (wCons (wVar 0) (wCons (wOp2 gIx (wDat (wLst (wCons (wOp2 gPow (wC (.int 10)) (wC (.int 40))) (wCons (wOp2 gPow (wC (.int 10)) (wC (.int 40))) (wCons (wOp2 gPow (wC (.int 10)) (wC (.int 9))) wNil))))) (wVar 2)) wNil))) wNil))))))
  (wDrop (wU uAppend (wVar 1) (wCons (wTup (wCons (wVar 4) (wCons (wOp2 gIx (wVar 5) (wCall 2 F_law_draw (wCons (wVar 0) (wCons (wC (.int 3)) wNil)))) wNil))) wNil))))))
  (wRet (wB gTuple (wCons (wVar 1) wNil))))))
def F_law_some : FS := runF 6 w_law_some
def w_law_written_v1 : WS := (wSeq (wSet 1 (wLoc (wLst wNil)))
  (wSeq (wFor (.tp [2, 3]) (wIt (wVar 0)) (wDrop (wU uAppend (wVar 1) (wCons (wOp2 gAdd (wOp2 gAdd (wVar 2) (wC (.str (S [120])))) (wB gStr (wCons (wVar 3) wNil))) wNil))))
  (wRet (wM "str" mJoin (wC (.str (S [32]))) (wCons (wVar 1) wNil)))))
def F_law_written_v1 : FS := runF 4 w_law_written_v1
def w_law_bent_v3 : WS := (wSeq (wFor (.nm 2) (wRng rng1 (wCons (wOp2 gAdd (wC (.int 1)) (wCall 2 F_law_draw (wCons (wVar 0) (wCons (wC (.int 3)) wNil)))) wNil)) (wSeq (wPar [3, 4] (wCons (wCall 2 F_law_draw (wCons (wVar 0) (wCons (wOp2 gAdd (wB gLen (wCons (wVar 1) wNil)) (wC (.int 1))) wNil))) (wCons (wCall 2 F_law_draw (wCons (wVar 0) (wCons (wOp2 gAdd (wB gLen (wCons (wVar 1) wNil)) (wC (.int 1))) wNil))) wNil)))
  (wSeq (wSet 5 (wOp2 gIx (wDat (wLst (wCons (wC (.str (S [32]))) (wCons (wC (.str (S [120]))) (wCons (wC (.str (S [48]))) (wCons (wC (.str (S [55]))) (wCons (wC (.str (S [45]))) (wCons (wC (.str (S [97, 120, 49, 32]))) (wCons (wC (.str (S [32, 60, 120, 48]))) (wCons (wC (.str (S [65]))) (wCons (wC (.str (S [10]))) (wCons (wC (.str (S [95]))) (wCons (wC (.str (S [120, 120, 49, 50]))) (wCons (wC (.str (S [48, 48]))) wNil)))))))))))))) (wCall 2 F_law_draw (wCons (wVar 0) (wCons (wC (.int 12)) wNil)))))
  (wSeq (wPar [6, 7] (wCons (wSl gSl (wVar 1) wNo (wPart (wVar 3))) (wCons (wSl gSl (wVar 1) (wPart (wVar 3)) wNo) wNil)))
  (wSeq (wSet 8 (wDat (wLst (wCons (wOp2 gAdd (wOp2 gAdd (wVar 6) (wVar 5)) (wVar 7)) (wCons (wOp2 gAdd (wOp2 gAdd (wVar 6) (wVar 5)) (wSl gSl (wVar 7) (wPart (wC (.int 1))) wNo)) (wCons (wOp2 gAdd (wVar 6) (wSl gSl (wVar 7) (wPart (wC (.int 1))) wNo)) wNil))))))
  (wSet 1 (wOp2 gIx (wOp2 gAdd (wVar 8) (wDat (wLst (wCons (wOp2 gAdd (wSl gSl (wVar 1) wNo (wPart (wB gMin (wCons (wVar 3) (wCons (wVar 4) wNil))))) (wSl gSl (wVar 1) (wPart (wB gMax (wCons (wVar 3) (wCons (wVar 4) wNil)))) wNo)) wNil)))) (wCall 2 F_law_draw (wCons (wVar 0) (wCons (wC (.int 4)) wNil))))))))))
  (wRet (wVar 1)))
def F_law_bent_v3 : FS := runF 9 w_law_bent_v3
def w_law_no_runs : WS := (wSeq (wSet 2 (wCall 2 F_law_draw (wCons (wVar 0) (wCons (wOp2 gAdd (wB gLen (wCons (wVar 1) wNil)) (wC (.int 1))) wNil))))
  (wSeq (wSet 3 (wDat (wLst (wCons (wTup (wCons (wC (.str (S [65]))) (wCons (wC (.int 1)) wNil))) (wCons (wTup (wCons (wC (.str (S []))) (wCons (wC (.int 1)) wNil))) (wCons (wTup (wCons (wC (.str (S [97, 98]))) (wCons (wC (.int 1)) wNil))) (wCons (wTup (wCons (wC (.str (S [97]))) (wCons (wOp1 gNeg (wC (.int 1))) wNil))) (wCons (wTup (wCons (wC (.str (S [97]))) (wCons (wC (.bool true)) wNil))) (wCons (wTup (wCons (wC (.str (S [97]))) (wCons (wC (.str (S [49]))) wNil))) (wCons (wTup (wCons (wC (.str (S [97]))) (wCons (wC .none) wNil))) (wCons (wTup (wCons (wC (.str (S [97]))) wNil)) (wCons (wTup (wCons (wC (.str (S [97]))) (wCons (wC (.int 1)) (wCons (wC (.int 1)) wNil)))) (wCons (wDat (wLst (wCons (wC (.str (S [97]))) (wCons (wC (.int 1)) wNil)))) wNil)))))))))))))
  (wSeq (wSet 3 (wOp2 gIx (wOp2 gAdd (wVar 3) (wDat (wLst (wCons (wC .none) (wCons (wC (.str (S [97, 120, 49]))) (wCons (wTup (wCons (wC (.int 1)) (wCons (wC (.str (S [97]))) wNil))) (wCons (wTup (wCons (wC (.int 5)) (wCons (wC (.int 5)) wNil))) (wCons (wTup (wCons (wC (.dict [])) (wCons (wC (.int 1)) wNil))) (wCons (wTup (wCons (wC (.str (S [124]))) (wCons (wC (.int 2)) wNil))) wNil))))))))) (wCall 2 F_law_draw (wCons (wVar 0) (wCons (wC (.int 16)) wNil)))))
  (wRet (wDat (wLst (wCons (wOp2 gAdd (wOp2 gAdd (wSl gSl (wVar 1) wNo (wPart (wVar 2))) (wTup (wCons (wVar 3) wNil))) (wSl gSl (wVar 1) (wPart (wVar 2)) wNo)) (wCons (wOp2 gAdd (wOp2 gAdd (wSl gSl (wVar 1) wNo (wPart (wVar 2))) (wTup (wCons (wVar 3) wNil))) (wSl gSl (wVar 1) (wPart (wOp2 gAdd (wVar 2) (wC (.int 1)))) wNo)) (wCons (wDat (wBL gListA (wCons (wVar 1) wNil))) (wCons (wC .none) (wCons (wC (.str (S [97, 120, 49]))) (wCons (wC (.dict [])) (wCons (wC (.int 5)) (wCons (wVar 3) wNil))))))))))))))
def F_law_no_runs : FS := runF 4 w_law_no_runs
def w_law_due_v3 : WS := (wSeq (wUnp [2, 3] (wCall 1 F_law_shown (wCons (wVar 0) wNil)))
  (wSeq (wSet 4 (wB gTuple (wCons (wDat (wLc (.tp [6, 7]) (wZip (wCons (wVar 3) (wCons (wSl gSl (wVar 3) (wPart (wC (.int 1))) wNo) wNil))) wYes (wOp2 gSub (wVar 7) (wVar 6)) [6, 7])) wNil)))
  (wSeq (wSet 5 (wDat (wLst (wCons (wOp2 gAdd (wC (.str (S [99, 104, 97, 114, 97, 99, 116, 101, 114, 115, 32]))) (wB gStr (wCons (wB gLen (wCons (wVar 2) wNil)) wNil))) (wCons (wOp2 gAdd (wC (.str (S [99, 117, 114, 115, 111, 114, 115, 32]))) (wB gStr (wCons (wB gLen (wCons (wVar 3) wNil)) wNil))) wNil)))))
  (wRet (wDat (wLst (wCons (wVar 2) (wCons (wVar 3) (wCons (wTup (wCons (wOp2 gIx (wVar 3) (wC (.int 0))) (wCons (wVar 4) (wCons (wOp2 gSub (wB gLen (wCons (wVar 2) wNil)) (wOp2 gIx (wVar 3) (wOp1 gNeg (wC (.int 1))))) wNil)))) (wCons (wVar 5) (wCons (wVar 1) wNil)))))))))))
def F_law_due_v3 : FS := runF 8 w_law_due_v3
def w_law_poolb : WS := (wSeq (wSet 2 (wIf (wCmpT gLt (wVar 1) (wScrLen (wVar 0))) (wScrAt (wVar 0) (wVar 1)) (wC (.int 0))))
  (wRet (wDat (wLst (wCons (wB gMax (wCons (wC (.int 0)) (wCons (wOp2 gSub (wB gAbs (wCons (wVar 2) wNil)) (wOp2 gPow (wC (.int 10)) (wC (.int 18)))) wNil))) (wCons (wOp2 gAdd (wOp2 gAdd (wOp2 gMul (wOp2 gMod (wVar 2) (wOp2 gAdd (wOp2 gPow (wC (.int 10)) (wC (.int 40))) (wC (.int 121)))) (wC (.int 89))) (wOp2 gMul (wC (.int 31)) (wVar 1))) (wC (.int 7))) (wCons (wC (.int 0)) wNil)))))))
def F_law_poolb : FS := runF 3 w_law_poolb
def w_law_struck : WS := (wSeq (wIfS (wAndT (wCmpT gEq (wOp2 gMod (wVar 2) (wC (.int 2))) (wC (.int 1))) (wCmpT gNotIn (wVar 1) (wTup (wCons (wC (.str (S [45]))) (wCons (wC (.str (S [35]))) (wCons (wC (.str (S [60]))) (wCons (wC (.str (S [62]))) wNil))))))) (wSet 0 (wCall 2 F_law_one (wCons (wVar 0) (wCons (wC (.str (S [35]))) wNil)))) wNext)
  (wRet (wCall 2 F_law_one (wCons (wVar 0) (wCons (wVar 1) wNil)))))
def F_law_struck : FS := runF 3 w_law_struck
def w_law_run : WS := (wSeq (wFor (.tp [3, 4]) (wEnum (wCons (wVar 1) wNil)) (wSeq (wSet 5 (wCall 3 F_law_struck (wCons (wVar 0) (wCons (wVar 4) (wCons (wVar 2) wNil)))))
  (wSeq (wIfS (wAndT (wCmpT gGt (wVar 2) (wC (.int 1))) (wCmpT gLt (wM "str" mCount (wVar 5) (wCons (wC (.str (S [124]))) wNil)) (wM "str" mCount (wVar 0) (wCons (wC (.str (S [124]))) wNil)))) (wRet (wDat (wLst (wCons (wVar 0) (wCons (wOp2 gAdd (wVar 3) (wC (.int 1))) wNil))))) wNext)
  (wSet 0 (wVar 5)))))
  (wRet (wDat (wLst (wCons (wVar 0) (wCons (wC .none) wNil))))))
def F_law_run : FS := runF 6 w_law_run
def w_law_is_valid : WS := (wSeq (wSet 2 (wC (.str (S [97, 98, 99, 100, 101, 102, 103, 104, 105, 106, 107, 108, 109, 110, 111, 112, 113, 114, 115, 116, 117, 118, 119, 120, 121, 122, 65, 66, 67, 68, 69, 70, 71, 72, 73, 74, 75, 76, 77, 78, 79, 80, 81, 82, 83, 84, 85, 86, 87, 88, 89, 90]))))
  (wSeq (wIfS (wNotT (wTru (wIsi "str" (wVar 0)))) (wRet (wC (.bool false))) wNext)
  (wSeq (wIfS (wCmpT gNe (wDat (wLc (.nm 4) (wIt (wVar 0)) (wCmpT gNotIn (wVar 4) (wVar 2)) (wVar 4) [4])) (wDat (wLst wNil))) (wRet (wC (.bool false))) wNext)
  (wSeq (wIfS (wOrT (wNotT (wTru (wIsi "tuple" (wVar 1)))) (wCmpT gEq (wB gLen (wCons (wVar 1) wNil)) (wC (.int 0)))) (wRet (wC (.bool false))) wNext)
  (wSeq (wFor (.nm 3) (wIt (wVar 1)) (wSeq (wIfS (wOrT (wNotT (wTru (wIsi "int" (wVar 3)))) (wTru (wIsi "bool" (wVar 3)))) (wRet (wC (.bool false))) wNext)
  (wIfS (wNotT (wChainT gLe gLe (wC (.int 0)) (wVar 3) (wB gLen (wCons (wVar 0) wNil)))) (wRet (wC (.bool false))) wNext)))
  (wRet (wCmp gEq (wDat (wBL gListA (wCons (wVar 1) wNil))) (wDat (wSortS (wVar 1))))))))))
def F_law_is_valid : FS := runF 5 w_law_is_valid
def w_law_due_v4 : WS := (wSeq (wUnp [1, 2] (wCall 1 F_law_shown (wCons (wVar 0) wNil)))
  (wSeq (wSet 3 (wB gTuple (wCons (wDat (wLc (.tp [5, 6]) (wZip (wCons (wVar 2) (wCons (wSl gSl (wVar 2) (wPart (wC (.int 1))) wNo) wNil))) wYes (wOp2 gSub (wVar 6) (wVar 5)) [5, 6])) wNil)))
  (wSeq (wSet 4 (wDat (wLst (wCons (wOp2 gAdd (wC (.str (S [99, 104, 97, 114, 97, 99, 116, 101, 114, 115, 32]))) (wB gStr (wCons (wB gLen (wCons (wVar 1) wNil)) wNil))) (wCons (wOp2 gAdd (wC (.str (S [99, 117, 114, 115, 111, 114, 115, 32]))) (wB gStr (wCons (wB gLen (wCons (wVar 2) wNil)) wNil))) (wCons (wC (.str (S [111, 118, 101, 114, 116, 121, 112, 101]))) wNil))))))
  (wRet (wDat (wLst (wCons (wVar 1) (wCons (wVar 2) (wCons (wTup (wCons (wOp2 gIx (wVar 2) (wC (.int 0))) (wCons (wVar 3) (wCons (wOp2 gSub (wB gLen (wCons (wVar 1) wNil)) (wOp2 gIx (wVar 2) (wOp1 gNeg (wC (.int 1))))) wNil)))) (wCons (wVar 4) wNil))))))))))
def F_law_due_v4 : FS := runF 7 w_law_due_v4
def w_law_letters : WS := (wSeq (wSet 2 (wC (.str (S [65, 66, 67, 68, 69, 70, 71, 72, 73, 74, 75, 76, 77, 78, 79, 80, 81, 82, 83, 84, 85, 86, 87, 88, 89, 90, 97, 98, 99]))))
  (wRet (wM "str" mJoin (wC (.str (S []))) (wCons (wDat (wLc (.nm 3) (wRng rng1 (wCons (wVar 1) wNil)) wYes (wOp2 gIx (wVar 2) (wCall 2 F_law_draw (wCons (wVar 0) (wCons (wC (.int 29)) wNil)))) [3])) wNil))))
def F_law_letters : FS := runF 4 w_law_letters
def w_law_text : WS := (wSeq (wSet 4 (wLoc (wLst (wCons (wVar 1) wNil))))
  (wSeq (wFor (.nm 5) (wIt (wVar 2)) (wDrop (wU uAppend (wVar 4) (wCons (wOp2 gAdd (wOp2 gIx (wVar 4) (wOp1 gNeg (wC (.int 1)))) (wVar 5)) wNil))))
  (wRet (wDat (wLst (wCons (wCall 2 F_law_letters (wCons (wVar 0) (wCons (wOp2 gAdd (wOp2 gIx (wVar 4) (wOp1 gNeg (wC (.int 1)))) (wVar 3)) wNil))) (wCons (wB gTuple (wCons (wVar 4) wNil)) wNil)))))))
def F_law_text : FS := runF 6 w_law_text
def w_law_alone : WS := (wSeq (wUnp [3, 4, 5, 6] (wVar 2))
  (wSeq (wPar [7, 8, 9] (wCons (wC (.str (S []))) (wCons (wLoc (wLst wNil)) (wCons (wC (.int 0)) wNil))))
  (wSeq (wFor (.nm 10) (wIt (wVar 1)) (wSeq (wSet 7 (wOp2 gAdd (wVar 7) (wSl gSl (wVar 0) (wPart (wVar 9)) (wPart (wOp2 gSub (wVar 10) (wVar 3))))))
  (wSeq (wDrop (wU uAppend (wVar 8) (wCons (wOp2 gAdd (wB gLen (wCons (wVar 7) wNil)) (wVar 6)) wNil)))
  (wSeq (wFor (.nm 11) (wIt (wVar 5)) (wSet 7 (wOp2 gAdd (wVar 7) (wIf (wTru (wIsi "str" (wVar 11))) (wVar 11) (wOp2 gIx (wVar 0) (wOp2 gAdd (wVar 10) (wVar 11)))))))
  (wSet 9 (wOp2 gAdd (wVar 10) (wVar 4)))))))
  (wRet (wTup (wCons (wOp2 gAdd (wVar 7) (wSl gSl (wVar 0) (wPart (wVar 9)) wNo)) (wCons (wB gTuple (wCons (wVar 8) wNil)) wNil)))))))
def F_law_alone : FS := runF 12 w_law_alone
def w_law_near_right : WS := (wSeq (wPar [2, 3] (wCons (wCall 1 F_depth_of (wCons (wVar 1) wNil)) (wCons (wB gLen (wCons (wVar 1) wNil)) wNil)))
  (wSeq (wSet 4 (wDat (wLc (.nm 9) (wRng rng1 (wCons (wCall 2 F_law_draw (wCons (wVar 0) (wCons (wC (.int 9)) wNil))) wNil)) wYes (wOp2 gAdd (wC (.int 1)) (wCall 2 F_law_draw (wCons (wVar 0) (wCons (wOp2 gAdd (wVar 2) (wC (.int 2))) wNil)))) [9])))
  (wSeq (wUnp [5, 6] (wCall 4 F_law_text (wCons (wVar 0) (wCons (wOp2 gAdd (wVar 3) (wCall 2 F_law_draw (wCons (wVar 0) (wCons (wC (.int 3)) wNil)))) (wCons (wVar 4) (wCons (wOp2 gAdd (wVar 3) (wCall 2 F_law_draw (wCons (wVar 0) (wCons (wC (.int 3)) wNil)))) wNil))))))
  (wSeq (wSet 7 (wCall 3 F_pressed (wCons (wVar 5) (wCons (wVar 6) (wCons (wVar 1) wNil)))))
  (wSeq (wSet 8 (wB gTuple (wCons (wDat (wLc (.nm 10) (wIt (wVar 4)) (wCmpT gGt (wVar 10) (wVar 2)) (wOp2 gAdd (wVar 10) (wCall 1 F_net_of (wCons (wVar 1) wNil))) [10])) wNil)))
  (wRet (wCmp gEq (wOp2 gIx (wCall 2 F_layout_of (wCons (wOp2 gIx (wVar 7) (wC (.int 0))) (wCons (wOp2 gIx (wVar 7) (wC (.int 1))) wNil))) (wC (.int 1))) (wVar 8))))))))
def F_law_near_right : FS := runF 11 w_law_near_right
def w_law_regions : WS := (wSeq (wSet 2 (wDat (wOpL gAddL (wDat (wBL gListA (wCons (wVar 1) wNil))) (wDat (wLst (wCons (wB gLen (wCons (wVar 0) wNil)) wNil))))))
  (wRet (wDat (wLc (.tp [3, 4]) (wZip (wCons (wDat (wOpL gAddL (wDat (wLst (wCons (wC (.int 0)) wNil))) (wDat (wBL gListA (wCons (wVar 1) wNil))))) (wCons (wVar 2) wNil))) wYes (wSl gSl (wVar 0) (wPart (wVar 3)) (wPart (wVar 4))) [3, 4]))))
def F_law_regions : FS := runF 5 w_law_regions
def w_law_built : WS := (wSeq (wPar [3, 4] (wCons (wCall 2 F_layout_of (wCons (wVar 0) (wCons (wVar 1) wNil))) (wCons (wCall 2 F_law_regions (wCons (wVar 0) (wCons (wVar 1) wNil))) wNil)))
  (wSeq (wSet 5 (wDat (wOpL gAddL (wDat (wOpL gAddL (wDat (wLst (wCons (wOp2 gIx (wVar 4) (wC (.int 0))) wNil))) (wDat (wLc (.nm 9) (wIt (wSl gSl (wVar 4) (wPart (wC (.int 1))) (wPart (wOp1 gNeg (wC (.int 1)))))) (wCmpT gGt (wB gLen (wCons (wVar 9) wNil)) (wOp2 gIx (wVar 2) (wC (.int 3)))) (wVar 9) [9])))) (wDat (wLst (wCons (wOp2 gIx (wVar 4) (wOp1 gNeg (wC (.int 1)))) wNil))))))
  (wSeq (wPar [6, 7, 8] (wCons (wCall 2 F_pieces_afterb (wCons (wVar 3) (wCons (wVar 2) wNil))) (wCons (wC (.str (S []))) (wCons (wLoc (wLst wNil)) wNil))))
  (wSeq (wIfS (wCmpT gNe (wB gLen (wCons (wVar 6) wNil)) (wB gLen (wCons (wVar 5) wNil))) (wRet (wC .none)) wNext)
  (wSeq (wFor (.tp [9, 10]) (wZip (wCons (wVar 5) (wCons (wVar 6) wNil))) (wSeq (wUnp [11, 12, 13] (wVar 10))
  (wSeq (wSet 7 (wOp2 gAdd (wOp2 gAdd (wVar 7) (wSl gSl (wVar 9) (wPart (wVar 11)) (wPart (wOp2 gAdd (wVar 11) (wVar 12))))) (wVar 13)))
  (wDrop (wU uAppend (wVar 8) (wCons (wB gLen (wCons (wVar 7) wNil)) wNil))))))
  (wRet (wTup (wCons (wVar 7) (wCons (wB gTuple (wCons (wSl gSl (wVar 8) wNo (wPart (wOp1 gNeg (wC (.int 1))))) wNil)) wNil)))))))))
def F_law_built : FS := runF 14 w_law_built
def w_law_capitals : WS := (wSeq (wPar [2, 3] (wCons (wLoc (wBL gListA (wCons (wC (.str cUp)) wNil))) (wCons (wC (.str (S []))) wNil)))
  (wSeq (wFor (.nm 4) (wRng rng1 (wCons (wVar 1) wNil)) (wSet 3 (wOp2 gAdd (wVar 3) (wU uPop (wVar 2) (wCons (wCall 2 F_law_draw_v2 (wCons (wVar 0) (wCons (wB gLen (wCons (wVar 2) wNil)) wNil))) wNil)))))
  (wRet (wVar 3))))
def F_law_capitals : FS := runF 5 w_law_capitals
def w_law_written_v2 : WS := (wSeq (wSet 2 (wOp2 gIx (wVar 1) (wC (.int 0))))
  (wRet (wM "str" mJoin (wC (.str (S []))) (wCons (wDat (wLc (.nm 3) (wIt (wVar 0)) wYes (wIf (wTru (wCall 1 F_law_is_mark (wCons (wVar 3) wNil))) (wOp2 gIx (wOp2 gIx (wVar 1) (wC (.int 1))) (wOp2 gAdd (wVar 2) (wVar 3))) (wVar 3)) [3])) wNil))))
def F_law_written_v2 : FS := runF 4 w_law_written_v2
def w_law_cursors_right : WS := (wSeq (wUnp [3, 4, 5, 6] (wCall 1 F_far_effect (wCons (wVar 1) wNil)))
  (wSeq (wSet 7 (wB gMax (wCons (wOp2 gAdd (wVar 3) (wVar 4)) (wCons (wOp2 gAdd (wCall 1 F_depth_of (wCons (wVar 1) wNil)) (wC (.int 1))) wNil))))
  (wSeq (wPar [8, 9] (wCons (wLoc (wLst wNil)) (wCons (wOp2 gAdd (wVar 3) (wCall 2 F_law_draw_v2 (wCons (wVar 0) (wCons (wC (.int 3)) wNil)))) wNil)))
  (wSeq (wFor (.nm 10) (wRng rng1 (wCons (wVar 2) wNil)) (wSeq (wDrop (wU uAppend (wVar 8) (wCons (wVar 9) wNil)))
  (wSet 9 (wOp2 gAdd (wOp2 gAdd (wVar 9) (wVar 7)) (wCall 2 F_law_draw_v2 (wCons (wVar 0) (wCons (wC (.int 2)) wNil)))))))
  (wSeq (wSet 11 (wOp2 gAdd (wOp2 gAdd (wOp2 gIx (wVar 8) (wOp1 gNeg (wC (.int 1)))) (wVar 4)) (wCall 2 F_law_draw_v2 (wCons (wVar 0) (wCons (wC (.int 3)) wNil)))))
  (wSeq (wIfS (wCmpT gGt (wVar 11) (wC (.int 26))) (wRet (wC (.bool true))) wNext)
  (wSeq (wPar [12, 13, 14, 15] (wCons (wCall 2 F_law_capitals (wCons (wVar 0) (wCons (wVar 11) wNil))) (wCons (wC (.str (S []))) (wCons (wC (.int 0)) (wCons (wLoc (wLst wNil)) wNil)))))
  (wSeq (wFor (.nm 16) (wIt (wVar 8)) (wSeq (wSet 13 (wOp2 gAdd (wVar 13) (wSl gSl (wVar 12) (wPart (wVar 14)) (wPart (wOp2 gSub (wVar 16) (wVar 3))))))
  (wSeq (wDrop (wU uAppend (wVar 15) (wCons (wOp2 gAdd (wB gLen (wCons (wVar 13) wNil)) (wVar 6)) wNil)))
  (wSeq (wSet 13 (wOp2 gAdd (wVar 13) (wCall 2 F_law_written_v2 (wCons (wVar 5) (wCons (wTup (wCons (wVar 3) (wCons (wSl gSl (wVar 12) (wPart (wOp2 gSub (wVar 16) (wVar 3))) (wPart (wOp2 gAdd (wVar 16) (wVar 4)))) wNil))) wNil)))))
  (wSet 14 (wOp2 gAdd (wVar 16) (wVar 4)))))))
  (wRet (wCmp gEq (wCall 3 F_pressed (wCons (wVar 12) (wCons (wB gTuple (wCons (wVar 8) wNil)) (wCons (wVar 1) wNil)))) (wTup (wCons (wOp2 gAdd (wVar 13) (wSl gSl (wVar 12) (wPart (wVar 14)) wNo)) (wCons (wB gTuple (wCons (wVar 15) wNil)) wNil)))))))))))))
def F_law_cursors_right : FS := runF 17 w_law_cursors_right
def w_law_ends_right : WS := (wSeq (wSet 3 (wCall 2 F_first_difference (wCons (wVar 1) (wCons (wVar 2) wNil))))
  (wSeq (wIfS (wCmpT gIsNot (wVar 3) (wC .none)) (wSeq (wSet 4 (wCall 2 F_law_capitals (wCons (wVar 0) (wCons (wB gSumA (wCons (wVar 3) wNil)) wNil))))
  (wRet (wCmp gNe (wCall 3 F_pressed (wCons (wVar 4) (wCons (wSl gSl (wVar 3) wNo (wPart (wC (.int 1)))) (wCons (wVar 1) wNil)))) (wCall 3 F_pressed (wCons (wVar 4) (wCons (wSl gSl (wVar 3) wNo (wPart (wC (.int 1)))) (wCons (wVar 2) wNil))))))) wNext)
  (wSeq (wFor (.nm 5) (wRng rng1 (wCons (wC (.int 3)) wNil)) (wSeq (wSet 4 (wCall 2 F_law_capitals (wCons (wVar 0) (wCons (wCall 2 F_law_draw_v2 (wCons (wVar 0) (wCons (wC (.int 12)) wNil))) wNil))))
  (wSeq (wSet 6 (wTup (wCons (wCall 2 F_law_draw_v2 (wCons (wVar 0) (wCons (wOp2 gAdd (wB gLen (wCons (wVar 4) wNil)) (wC (.int 1))) wNil))) wNil)))
  (wIfS (wCmpT gNe (wCall 3 F_pressed (wCons (wVar 4) (wCons (wVar 6) (wCons (wVar 1) wNil)))) (wCall 3 F_pressed (wCons (wVar 4) (wCons (wVar 6) (wCons (wVar 2) wNil))))) (wRet (wC (.bool false))) wNext))))
  (wRet (wCall 2 F_same_far (wCons (wVar 1) (wCons (wVar 2) wNil)))))))
def F_law_ends_right : FS := runF 7 w_law_ends_right
def w_law_cut_v1 : WS := (wSeq (wSet 2 (wCall 2 F_law_draw_v1 (wCons (wVar 0) (wCons (wOp2 gAdd (wB gLen (wCons (wVar 1) wNil)) (wC (.int 1))) wNil))))
  (wSeq (wSet 3 (wCall 2 F_law_draw_v1 (wCons (wVar 0) (wCons (wOp2 gAdd (wB gLen (wCons (wVar 1) wNil)) (wC (.int 1))) wNil))))
  (wSeq (wUnpL [4, 5] (wDat (wBL gSortL (wCons (wDat (wLst (wCons (wVar 2) (wCons (wVar 3) wNil)))) wNil))))
  (wRet (wDat (wLst (wCons (wSl gSl (wVar 1) wNo (wPart (wVar 4))) (wCons (wSl gSl (wVar 1) (wPart (wVar 4)) (wPart (wVar 5))) (wCons (wSl gSl (wVar 1) (wPart (wVar 5)) wNo) wNil)))))))))
def F_law_cut_v1 : FS := runF 6 w_law_cut_v1
end Dl

/-! plain laws: the text of data fits -/
namespace Dl
open PySem
open PySem.Spec
open PyProof.Rows
open L2
/-- data of small height and weight, its numbers below 10^60 -/
def Fit (h w : Nat) (d : D) : Prop := d.canLay0 = true ∧ d.depth ≤ h ∧ d.showable = true ∧ d.leavesShort 70 = true ∧ d.weight ≤ w
theorem Fit.mono {h w h' w' : Nat} {d : D} (f : Fit h w d) (h1 : h ≤ h') (h2 : w ≤ w') : Fit h' w' d := ⟨f.1, Nat.le_trans f.2.1 h1, f.2.2.1, f.2.2.2.1, Nat.le_trans f.2.2.2.2 h2⟩
theorem fit_none : Fit 0 0 .none := ⟨by simp [PyData.canLay0], by simp [PyData.depth], by simp [PyData.showable], by simp [PyData.leavesShort], by simp [PyData.weight]⟩
theorem fit_bool {b : Bool} : Fit 0 0 (.bool b) := ⟨by simp [PyData.canLay0], by simp [PyData.depth], by simp [PyData.showable], by simp [PyData.leavesShort], by simp [PyData.weight]⟩
theorem fit_int {i : Int} (h : i.natAbs < 10 ^ 60) : Fit 0 200 (.int i) := by
  have h2 : i.natAbs.log2 < 200 := by
    by_cases hz : i.natAbs = 0
    · rw [hz]
      decide
    · rw [Nat.log2_lt hz]
      exact Nat.lt_trans h (by decide)
  refine ⟨by simp [PyData.canLay0], by simp [PyData.depth], ?_, ?_, ?_⟩
  · simp only [PyData.showable, decide_eq_true_eq]
    omega
  · simp only [PyData.leavesShort, decide_eq_true_eq]
    have e := int_text_length_le10 (k := 60) (by decide) h
    show (Str.ofString (toString i)).length ≤ 70
    rw [PySem.ofString_length]
    omega
  · simp only [PyData.weight]
    split <;> omega
theorem fit_str {l : List Nat} (h : ∀ c ∈ l, c < 0x110000) : Fit 0 l.length (.str (S l)) := by
  have h1 : PyData.strOk (S l) = true := by
    show l.toArray.all _ = true
    rw [Array.all_eq_true_iff_forall_mem]
    intro c hc
    have := h c (by simpa using hc)
    simpa using this
  refine ⟨by simp only [PyData.canLay0]; exact h1, by simp [PyData.depth], by simp [PyData.showable], ?_, by simp [PyData.weight]⟩
  simp only [PyData.leavesShort, List.all_eq_true, decide_eq_true_eq]
  intro c hc
  have := h c (by simpa using hc)
  have e : (16 : Nat) ^ 8 = 4294967296 := by decide
  omega
theorem fit_all {h w : Nat} : ∀ {ds : List D}, (∀ d ∈ ds, Fit h w d) → PyData.canLayAll0 ds = true ∧ PyData.depthAll ds ≤ h ∧ PyData.showableAll ds = true ∧ PyData.leavesShortAll 70 ds = true ∧ PyData.weightAll ds ≤ ds.length * (w + 1)
  | [], _ => ⟨by simp [PyData.canLayAll0], by simp [PyData.depthAll], by simp [PyData.showableAll], by simp [PyData.leavesShortAll], by simp [PyData.weightAll]⟩
  | d :: ds, hd => by
    obtain ⟨a1, a2, a3, a4, a5⟩ := hd d (by simp)
    obtain ⟨b1, b2, b3, b4, b5⟩ := fit_all (ds := ds) fun e he => hd e (List.mem_cons_of_mem _ he)
    refine ⟨by simp [PyData.canLayAll0, a1, b1], ?_, by simp [PyData.showableAll, a3, b3], by simp [PyData.leavesShortAll, a4, b4], ?_⟩
    · simp only [PyData.depthAll]
      omega
    · simp only [PyData.weightAll, List.length_cons, Nat.add_mul, Nat.one_mul]
      omega
theorem fit_list {h w n : Nat} {ds : List D} (hd : ∀ d ∈ ds, Fit h w d) (hn : ds.length ≤ n) : Fit (h + 1) (n * (w + 1)) (.list ds) := by
  obtain ⟨b1, b2, b3, b4, b5⟩ := fit_all hd
  refine ⟨by simp [PyData.canLay0, b1], by simp only [PyData.depth]; omega, by simp [PyData.showable, b3], by simp [PyData.leavesShort, b4], ?_⟩
  simp only [PyData.weight]
  exact Nat.le_trans b5 (Nat.mul_le_mul_right _ hn)
theorem fit_tup {h w n : Nat} {ds : List D} (hd : ∀ d ∈ ds, Fit h w d) (hn : ds.length ≤ n) : Fit (h + 1) (n * (w + 1)) (.tuple ds) := by
  obtain ⟨b1, b2, b3, b4, b5⟩ := fit_all hd
  refine ⟨by simp [PyData.canLay0, b1], by simp only [PyData.depth]; omega, by simp [PyData.showable, b3], by simp [PyData.leavesShort, b4], ?_⟩
  simp only [PyData.weight]
  exact Nat.le_trans b5 (Nat.mul_le_mul_right _ hn)
theorem Fit.shp {h w : Nat} {d : D} (f : Fit h w d) (hh : h ≤ 64) : shp d = true := by
  show (d.canLay0 && decide (d.depth ≤ 64)) = true
  rw [f.1, decide_eq_true (by have := f.2.1; omega)]
  rfl
theorem Fit.repr {h w : Nat} {d : D} {k : D → Prop} (f : Fit h w d) (hh : h ≤ 64) (hw : w ≤ 200000) (q : k (.str d.shown)) : gRepr [d] k := by
  refine ⟨f.shp hh, f.2.2.1, ?_, q⟩
  have := PyData.shown_le 70 (by decide) d f.2.2.2.1
  have h2 : 72 * d.weight ≤ 72 * 200000 := Nat.mul_le_mul_left _ (Nat.le_trans f.2.2.2.2 hw)
  rw [sizeLine_eq]
  omega
mutual
theorem eqv_refl : ∀ {d : D}, d.canLay0 = true → PyData.eqv d d = true
  | .none, _ => by simp [PyData.eqv]
  | .bool b, _ => by simp [PyData.eqv]
  | .int i, _ => by simp [PyData.eqv]
  | .str s, _ => by simp [PyData.eqv]
  | .list ds, h => by
    simp only [PyData.eqv]
    exact eqvAll_refl (by simpa [PyData.canLay0] using h)
  | .tuple ds, h => by
    simp only [PyData.eqv]
    exact eqvAll_refl (by simpa [PyData.canLay0] using h)
  | .dict _, h => by simp [PyData.canLay0] at h
theorem eqvAll_refl : ∀ {ds : List D}, PyData.canLayAll0 ds = true → PyData.eqvAll ds ds = true
  | [], _ => by simp [PyData.eqvAll]
  | d :: ds, h => by
    have h' : (d.canLay0 && PyData.canLayAll0 ds) = true := by simpa [PyData.canLayAll0] using h
    rw [Bool.and_eq_true] at h'
    simp only [PyData.eqvAll, eqv_refl h'.1, eqvAll_refl h'.2, Bool.and_self]
end
theorem Fit.eq {h w : Nat} {d : D} {k : Bool → Prop} (f : Fit h w d) (hh : h ≤ 64) (q : k true) : gEq d d k := by
  cases d with
  | str z =>
    show k (z == z)
    simpa using q
  | _ =>
    refine ⟨f.shp hh, f.shp hh, ?_⟩
    rw [show eqd _ _ = true from eqv_refl f.1]
    exact q
theorem g_eqZ {a b : Str} {kb : Bool → Prop} : gEq (.str a) (.str b) kb = kb (a == b) := rfl
theorem g_neZ {a b : Str} {kb : Bool → Prop} : gNe (.str a) (.str b) kb = kb (!(a == b)) := rfl
end Dl

/-! plain laws, part 1: keys, forms, the law's own tools -/
namespace Dl
open PySem
open PySem.Spec
open PyProof.Rows
open L2
abbrev KS := R → Sto → Prop
abbrev XS0 := Exn → Sto → Prop
def isKeyB (c : Nat) : Bool := decide (c ∈ low) || (decide (c = 45) || (decide (c = 35) || (decide (c = 60) || decide (c = 62))))
section
variable {st : Sto} {k : KS} {x : XS0}
theorem r_is_key {c : Nat} (h : k (.d (.bool (isKeyB c))) st) : F_is_key [.d (.str (S [c]))] st k x := by
  have h4 : 4 ≤ sizeLine := sz (by decide)
  simp [F_is_key, e_run, w_is_key, g_inT4, h4]
  unfold isKeyB at h
  by_cases hc : c ∈ low
  · simpa [hc] using h
  · simpa [hc] using h
theorem join_nil : ∀ l : List Nat, Txt.join (S []) (l.map fun c => S [c]) = S l := by
  intro l
  rw [TL.join_eq]
  have go : ∀ l : List Nat, Str.join (S []) (l.map fun c => S [c]) = S l := by
    intro l
    induction l with
    | nil => rfl
    | cons c l ih =>
      cases l with
      | nil => rfl
      | cons d l =>
        show S [c] ++ S [] ++ Str.join (S []) ((d :: l).map fun c => S [c]) = _
        rw [ih, S_app, S_app]
        rfl
  exact go l
theorem r_is_keys {row : List Nat} (hz : row.length ≤ 1000000) (h : k (.d (.bool (row.all isKeyB))) st) : F_is_keys [.d (.str (S row))] st k x := by
  simp [F_is_keys, e_run, w_is_keys, signs_S]
  try simp
  refine lc1y (α := Nat) sign (fun c => .bool (isKeyB c)) rfl (fun c _ K X hK => ?_) (sz hz) ?_
  · simp [sign_S]
    exact r_is_key hK
  · try simp
    rw [g_all (boolsD_map isKeyB row)]
    simpa using h
theorem r_check_keys {row : List Nat} (hz : row.length ≤ 1000000) (h : if row.all isKeyB = true then k (.d .none) st else x ⟨"InvalidKeys", []⟩ st) : F_check_keys [.d (.str (S row))] st k x := by
  simp [F_check_keys, e_run, w_check_keys]
  try simp
  refine r_is_keys hz ?_
  revert h
  generalize row.all isKeyB = b
  intro h
  cases b <;> simpa using h
def isMove (c : Nat) : Bool := decide (c = 60) || decide (c = 62)
theorem r_check_still {row : List Nat} (hz : row.length ≤ 1000000) (h : if row.all isKeyB = true then (if row.any isMove = true then x ⟨"HasMoves", []⟩ st else k (.d .none) st) else x ⟨"InvalidKeys", []⟩ st) : F_check_still [.d (.str (S row))] st k x := by
  simp [F_check_still, e_run, w_check_still]
  try simp
  refine r_check_keys hz ?_
  by_cases hc : row.all isKeyB = true
  · rw [if_pos hc] at h ⊢
    simp [signs_S]
    try simp
    refine lc1y (α := Nat) sign (fun c => .bool (isMove c)) rfl (fun c _ K X hK => ?_) (sz hz) ?_
    · simp [sign_S, g_inT2]
      simpa [isMove, sign_S] using hK
    · try simp
      rw [g_any (boolsD_map isMove row)]
      have e1 : (row.map isMove).any id = row.any isMove := by rw [List.any_map]; rfl
      rw [e1]
      revert h
      generalize row.any isMove = b
      intro h
      cases b <;> simpa using h
  · rw [if_neg hc] at h ⊢
    simpa using h
/-! ### forms -/
structure Fm where
  back : Nat
  word : List Nat
  ahead : Nat
  depth : Int
  sur : Int
def stepF (s : Fm) (c : Nat) : Fm :=
  if c ∈ low then { s with word := s.word ++ [c], sur := s.sur - 1 }
  else
    if c = 35 then { s with sur := s.sur + 1, depth := max s.depth (s.sur + 1), ahead := s.ahead + 1 }
    else if s.word = [] then { s with sur := s.sur + 1, depth := max s.depth (s.sur + 1), back := s.back + 1 }
    else { s with sur := s.sur + 1, depth := max s.depth (s.sur + 1), word := s.word.dropLast }
def formS (row : List Nat) : Fm := row.foldl stepF ⟨0, [], 0, 0, 0⟩
def fmD (s : Fm) : D := .tuple [.int s.back, .str (S s.word), .int s.ahead, .int s.depth]
theorem stepF_word (s : Fm) (c : Nat) : (stepF s c).word.length ≤ s.word.length + 1 := by
  unfold stepF
  split
  · simp
  · split
    · simp
    · split
      · simp
      · simp
        omega
theorem r_form_from {row : List Nat} (hz : row.length ≤ 1000000) (h : k (.d (fmD (formS row))) st) : F_form_from [.d (.str (S row))] st k x := by
  have h4 : 4 ≤ sizeLine := sz (by decide)
  simp [F_form_from, e_run, w_form_from, signs_S]
  try simp
  refine loopF_fold (α := Nat) (σ := Fm) sign stepF (fun l s => s.word.length + l.length ≤ 1000000)
    (fun s r => ∃ kk, r = ⟨[some (.d (.str (S row))), some (.d (.int s.back)), some (.d (.str (S s.word))), some (.d (.int s.ahead)), some (.d (.int s.depth)), some (.d (.int s.sur)), kk], st⟩)
    ?_ ?_ row ⟨0, [], 0, 0, 0⟩ _ (by simpa using hz) ⟨none, rfl⟩ ?_
  · rintro c l s r K hI ⟨kk, rfl⟩ hK
    simp only [List.length_cons] at hI
    simp [sign_S]
    by_cases hc : c ∈ low
    · rw [if_pos hc]
      simp [g_iaddS]
      refine ⟨sz (by omega), hK _ ⟨some (.d (.str (S [c]))), ?_⟩⟩
      simp [stepF, hc]
    · rw [if_neg hc]
      simp [g_eqS]
      by_cases h35 : c = 35
      · rw [if_pos h35]
        refine hK _ ⟨some (.d (.str (S [c]))), ?_⟩
        have hc' : 35 ∉ low := by decide
        simp [stepF, h35, hc']
      · rw [if_neg h35]
        by_cases hw : s.word = []
        · rw [if_pos hw]
          refine hK _ ⟨some (.d (.str (S [c]))), ?_⟩
          simp [stepF, hc, h35, hw]
        · rw [if_neg hw, g_slS]
          refine ⟨sz (by omega), hK _ ⟨some (.d (.str (S [c]))), ?_⟩⟩
          simp [stepF, hc, h35, hw, cut_dropLast]
  · intro c l s hI
    have := stepF_word s c
    simp only [List.length_cons] at hI
    omega
  · rintro r ⟨kk, rfl⟩
    simp [h4]
    exact h
theorem r_form_of {row : List Nat} (hz : row.length ≤ 1000000) (hk : row.all isKeyB = true) (hm : row.any isMove = false) (h : k (.d (fmD (formS row))) st) : F_form_of [.d (.str (S row))] st k x := by
  simp [F_form_of, e_run, w_form_of]
  try simp
  refine r_check_still hz ?_
  rw [if_pos hk, if_neg (by rw [hm]; simp)]
  try simp
  refine r_form_from hz ?_
  simpa [fmD] using h
/-! ### the script -/
theorem r_law_cell_at {ns : List Int} {j : Nat} (h : ∀ i, k (.d (.int i)) st) : F_law_cell_at [.o (.scr ns), .d (.int j)] st k x := by
  simp [F_law_cell_at, e_run, w_law_cell_at, atI_nat]
  by_cases hj : j < ns.length
  · rw [if_pos hj, List.getElem?_eq_getElem hj]
    exact h _
  · rw [if_neg hj]
    exact h _
/-! ### the same data -/
def nice : Nat → D → Prop
  | _, .none => True
  | _, .bool _ => True
  | _, .int _ => True
  | _, .str _ => True
  | n + 1, .list ds => ds.length ≤ 1000000 ∧ ∀ d ∈ ds, nice n d
  | n + 1, .tuple ds => ds.length ≤ 1000000 ∧ ∀ d ∈ ds, nice n d
  | _, _ => False
theorem getD_map (ds : List D) : (List.range ds.length).map (fun i => ds.getD i .none) = ds := by
  apply List.ext_getElem?
  intro i
  rw [List.getElem?_map]
  by_cases h : i < ds.length
  · rw [List.getElem?_range h, List.getElem?_eq_getElem h]
    simp [List.getD, h]
  · rw [List.getElem?_eq_none (by simpa using h), List.getElem?_eq_none (by omega)]
    rfl
theorem r_same : ∀ (n : Nat) (d : D), nice n d → ∀ {st : Sto} {k : KS} {x : XS0}, k (.d (.bool true)) st → F_law_same_v1 (n + 1) [.d d, .d d] st k x := by
  have leaf : ∀ (G : FS) (d : D), (match d with
    | .list _ => False
    | .tuple _ => False
    | .dict _ => False
    | _ => True) → ∀ {st : Sto} {k : KS} {x : XS0}, k (.d (.bool true)) st → runF 3 (w_law_same_v1 G) [.d d, .d d] st k x := by
    intro G d hd st k x h
    cases d with
    | list ds => exact hd.elim
    | tuple ds => exact hd.elim
    | dict ds => exact hd.elim
    | none => simpa [e_run, w_law_same_v1, gIs] using h
    | bool b => simpa [e_run, w_law_same_v1, gIs, g_eqB] using h
    | int i => simpa [e_run, w_law_same_v1, gIs, g_eq] using h
    | str z =>
      simp [e_run, w_law_same_v1, gIs]
      show k (.d (.bool (z == z))) _
      simpa using h
  intro n
  induction n with
  | zero =>
    intro d hd st k x h
    refine leaf _ d ?_ h
    cases d <;> first | trivial | exact hd.elim
  | succ n ih =>
    intro d hd st k x h
    have go : ∀ (w : List D → D) (ds : List D), (ds.length ≤ 1000000 ∧ ∀ d ∈ ds, nice n d) → (w = .list ∨ w = .tuple) → runF 3 (w_law_same_v1 (F_law_same_v1 (n + 1))) [.d (w ds), .d (w ds)] st k x := by
      rintro w ds ⟨hz, hd⟩ hw
      rcases hw with rfl | rfl <;>
      · simp [e_run, w_law_same_v1, g_neB, g_ne]
        refine ⟨by omega, ?_⟩
        try simp
        refine lc1y (α := Nat) (fun i => .int (0 + i)) (fun _ => .bool true) rfl (fun i hi K X hK => ?_) (by simpa using sz hz) ?_
        · have hi' : i < ds.length := by simpa using hi
          simp [g_ixL, g_ixT, atI_nat, hi']
          exact ih _ (hd _ (List.getElem_mem hi')) (by simpa using hK)
        · try simp
          rw [g_all (boolsD_map (fun _ => true) (List.range ds.length))]
          have e1 : ((List.range ds.length).map fun _ => true).all id = true := by
            rw [List.all_eq_true]
            intro b hb
            obtain ⟨_, _, rfl⟩ := List.mem_map.mp hb
            rfl
          rw [e1]
          simpa using h
    cases d with
    | list ds => exact go _ ds hd (.inl rfl)
    | tuple ds => exact go _ ds hd (.inr rfl)
    | dict es => exact hd.elim
    | _ => exact leaf _ _ trivial h
end
end Dl

/-! plain laws, part 2: draws -/
namespace Dl
open PySem
open PySem.Spec
open PyProof.Rows
open L2
/-- what a bag holds, at most m draws old -/
def Bag (m : Nat) (ds : List D) : Prop := ∃ a b c : Int, ds = [.int a, .int b, .int c] ∧ 0 ≤ b ∧ b ≤ 2 ^ 160 ∧ 0 ≤ c ∧ c ≤ m
section
variable {st : Sto} {k : KS} {x : XS0}
theorem log2_le {i : Int} {n : Nat} (h0 : 0 ≤ i) (h : i < 2 ^ n) (hn : n ≠ 0) : i.natAbs.log2 < n := by
  by_cases hz : i.natAbs = 0
  · rw [hz]
    simpa using Nat.pos_of_ne_zero hn
  · rw [Nat.log2_lt hz]
    have : ((i.natAbs : Nat) : Int) = i := by omega
    have h2 : ((i.natAbs : Nat) : Int) < ((2 ^ n : Nat) : Int) := by
      rw [this]
      simpa using h
    exact_mod_cast h2
theorem r_law_bag {cell : Int} {j : Nat} (hj : j ≤ 1000) (h : ∀ b, Bag 0 b → k (.l st.length) (st ++ [some b])) : F_law_bag [.d (.int cell), .d (.int j)] st k x := by
  have h3 : 3 ≤ sizeLine := sz (by decide)
  simp [F_law_bag, e_run, w_law_bag, h3]
  have e2 : (6469 : Nat).log2 + ((j : Int) + 1).natAbs.log2 < 1000000 := by
    have : ((j : Int) + 1).natAbs.log2 < 20 := log2_le (by omega) (by omega) (by decide)
    have : (6469 : Nat).log2 < 20 := by decide
    omega
  refine ⟨by decide, e2, h _ ⟨_, _, _, rfl, ?_, ?_, by omega, by omega⟩⟩
  · omega
  · have : (162259276829213363391578010288127 : Int) + 6469 * 1001 ≤ 2 ^ 160 := by decide
    omega
theorem r_law_take {n m : Nat} {b : List D} {lim : Int} (hn : st[n]? = some (some b)) (hb : Bag m b) (hm : m ≤ 1000000) (h0 : 0 < lim) (h1 : lim < 2 ^ 200)
    (h : ∀ b' (i : Nat), Bag (m + 1) b' → (i : Int) < lim → k (.d (.int i)) (st.set n (some b'))) : F_law_take [.l n, .d (.int lim)] st k x := by
  obtain ⟨a, b, c, rfl, hb0, hb1, hc0, hc1⟩ := hb
  have hl : n < st.length := (List.getElem?_eq_some_iff.mp hn).1
  have fin : ∀ (i : Int) (b' : List D), Bag (m + 1) b' → k (.d (.int (i % lim))) (st.set n (some b')) := fun i b' hb' => by
    have e1 : ((i % lim).toNat : Int) = i % lim := Int.toNat_of_nonneg (Int.emod_nonneg _ (by omega))
    have := h b' (i % lim).toNat hb' (by rw [e1]; exact Int.emod_lt_of_pos _ h0)
    rwa [e1] at this
  have lg : lim.natAbs.log2 < 9000 := Nat.lt_trans (log2_le (n := 200) (by omega) h1 (by decide)) (by decide)
  simp [F_law_take, e_run, w_law_take, e_lstAt hn, g_ixL, e_lstSet hl]
  by_cases ha : 1 < a
  · rw [if_pos ha]
    exact ⟨h0, ⟨h0, lg⟩, fin _ _ ⟨_, _, _, rfl, hb0, hb1, hc0, by omega⟩⟩
  · rw [if_neg ha]
    have c20 : (c + 1).natAbs.log2 < 30 := log2_le (by omega) (by omega) (by decide)
    have l1 : (1300223 : Nat).log2 < 30 := by decide
    have l2 : (15486253 : Nat).log2 < 30 := by decide
    have l3 : (b + 1300223 * (c + 1)).natAbs.log2 < 170 := log2_le (by omega) (by omega) (by decide)
    have l4 : ((b + 1300223 * (c + 1)) ^ 3 % 162259276829213363391578010288127 + 15486253 * (c + 1)).natAbs.log2 < 130 := by
      generalize (b + 1300223 * (c + 1)) ^ 3 = y
      exact log2_le (by omega) (by omega) (by decide)
    exact ⟨by omega, by omega, by omega, by omega, by decide, h0, fin _ _ ⟨_, _, _, rfl, hb0, hb1, by omega, by omega⟩⟩
/-! ### rows without moves -/
def Row (n : Nat) (l : List Nat) : Prop := l.length ≤ n ∧ ∀ c ∈ l, isKeyB c = true ∧ isMove c = false
theorem Row.keys {n : Nat} {l : List Nat} (h : Row n l) : l.all isKeyB = true := List.all_eq_true.mpr fun c hc => (h.2 c hc).1
theorem Row.moves {n : Nat} {l : List Nat} (h : Row n l) : l.any isMove = false := by
  rw [List.any_eq_false]
  intro c hc
  rw [(h.2 c hc).2]
  simp
theorem pick_ok {P : Nat → Prop} {L : List Nat} (h : ∀ c ∈ L, P c) {i : Nat} (hi : i < L.length) : ∃ c, L[i]? = some c ∧ P c :=
  ⟨L[i], List.getElem?_eq_getElem hi, h _ (List.getElem_mem hi)⟩
theorem Row.add {n : Nat} {l : List Nat} (h : Row n l) {c : Nat} (hc : isKeyB c = true ∧ isMove c = false) : Row (n + 1) (l ++ [c]) := by
  refine ⟨?_, fun d hd => ?_⟩
  · have := h.1
    rw [List.length_append, List.length_singleton]
    omega
  · rcases List.mem_append.mp hd with hd | hd
    · exact h.2 d hd
    · rw [List.mem_singleton.mp hd]
      exact hc
theorem Row.mono {n m : Nat} {l : List Nat} (h : Row n l) (hm : n ≤ m) : Row m l := ⟨Nat.le_trans h.1 hm, h.2⟩
theorem Bag.mono {n m : Nat} {l : List D} (h : Bag n l) (hm : n ≤ m) : Bag m l := by
  obtain ⟨a, b, c, e, h1, h2, h3, h4⟩ := h
  exact ⟨a, b, c, e, h1, h2, h3, by omega⟩
theorem r_law_still {n m : Nat} {b : List D} {top : Nat} (hn : st[n]? = some (some b)) (hb : Bag m b) (hm : m ≤ 900000) (h1 : top ≤ 1000)
    (h : ∀ b' row, Bag (m + top + 3) b' → Row top row → k (.d (.str (S row))) (st.set n (some b'))) : F_law_still [.l n, .d (.int top)] st k x := by
  have hl : n < st.length := (List.getElem?_eq_some_iff.mp hn).1
  have h4 : 4 ≤ sizeLine := sz (by decide)
  simp [F_law_still, e_run, w_law_still]
  try simp
  refine r_law_take hn hb (by omega) (by decide) (by decide) fun b1 i1 hb1 hi1 => ?_
  try simp
  refine r_law_take (b := b1) (m := m + 1) (by rw [List.getElem?_set_self hl]) hb1 (by omega) (by omega) (by omega) fun b2 i2 hb2 hi2 => ?_
  simp only [List.set_set, e_dref_d, e_rng1]
  refine ⟨by omega, by omega, ?_⟩
  try simp
  refine loopF_inv (fun ds r => ∃ (c : Nat) (b3 : List D) (row : List Nat) (y4 y5 : Option R), c + ds.length ≤ top ∧ Bag (m + 2 + c) b3 ∧ Row c row ∧ r = ⟨[some (.l n), some (.d (.int top)), some (.d (.int i1)), some (.d (.str (S row))), y4, y5], st.set n (some b3)⟩) ?_ ?_ _ _
    ⟨0, b2, [], none, none, ?_, hb2, ⟨by simp, by simp⟩, rfl⟩
  · rintro d ds r K hK ⟨c, b3, row, y4, y5, hc, hb3, hrow, rfl⟩
    simp only [List.length_cons] at hc
    have hi4 : i1 = 0 ∨ i1 = 1 ∨ i1 = 2 ∨ i1 = 3 := by omega
    have hz : row.length ≤ 1000 := Nat.le_trans hrow.1 (by omega)
    rcases hi4 with rfl | rfl | rfl | rfl
    · simp [sizeLine_eq, g_ixL, g_lenS]
      try simp
      refine r_law_take (b := b3) (m := m + 2 + c) (by rw [List.getElem?_set_self hl]) hb3 (by omega) (by decide) (by decide) fun b4 i4 hb4 hi4 => ?_
      simp [g_ixS, sizeLine_eq]
      obtain ⟨z, hz1, hz2⟩ := pick_ok (P := fun c => isKeyB c = true ∧ isMove c = false) (L := [97, 98, 45, 35]) (by decide) (i := i4) (by simp; omega)
      rw [hz1]
      simp [g_addS, sizeLine_eq]
      exact ⟨by omega, hK _ ⟨c + 1, b4, row ++ [z], _, _, by omega, hb4.mono (by omega), hrow.add hz2, rfl⟩⟩
    · simp [sizeLine_eq, g_ixL, g_lenS]
      try simp
      refine r_law_take (b := b3) (m := m + 2 + c) (by rw [List.getElem?_set_self hl]) hb3 (by omega) (by decide) (by decide) fun b4 i4 hb4 hi4 => ?_
      simp [g_ixS, sizeLine_eq]
      obtain ⟨z, hz1, hz2⟩ := pick_ok (P := fun c => isKeyB c = true ∧ isMove c = false) (L := [97, 98, 120, 121, 122, 45, 35]) (by decide) (i := i4) (by simp; omega)
      rw [hz1]
      simp [g_addS, sizeLine_eq]
      exact ⟨by omega, hK _ ⟨c + 1, b4, row ++ [z], _, _, by omega, hb4.mono (by omega), hrow.add hz2, rfl⟩⟩
    · simp [sizeLine_eq, g_ixL, g_lenS]
      try simp
      refine r_law_take (b := b3) (m := m + 2 + c) (by rw [List.getElem?_set_self hl]) hb3 (by omega) (by decide) (by decide) fun b4 i4 hb4 hi4 => ?_
      simp [g_ixS, sizeLine_eq]
      obtain ⟨z, hz1, hz2⟩ := pick_ok (P := fun c => isKeyB c = true ∧ isMove c = false) (L := [120, 45, 45, 35, 35]) (by decide) (i := i4) (by simp; omega)
      rw [hz1]
      simp [g_addS, sizeLine_eq]
      exact ⟨by omega, hK _ ⟨c + 1, b4, row ++ [z], _, _, by omega, hb4.mono (by omega), hrow.add hz2, rfl⟩⟩
    · simp [sizeLine_eq, g_ixL, g_lenS]
      try simp
      refine r_law_take (b := b3) (m := m + 2 + c) (by rw [List.getElem?_set_self hl]) hb3 (by omega) (by decide) (by decide) fun b4 i4 hb4 hi4 => ?_
      simp [g_ixS, sizeLine_eq]
      obtain ⟨z, hz1, hz2⟩ := pick_ok (P := fun c => isKeyB c = true ∧ isMove c = false) (L := [97, 113, 45, 35, 35, 45, 45, 35, 35]) (by decide) (i := i4) (by simp; omega)
      rw [hz1]
      simp [g_addS, sizeLine_eq]
      exact ⟨by omega, hK _ ⟨c + 1, b4, row ++ [z], _, _, by omega, hb4.mono (by omega), hrow.add hz2, rfl⟩⟩
  · rintro r ⟨c, b3, row, y4, y5, hc, hb3, hrow, rfl⟩
    simp at hc ⊢
    exact h _ _ (hb3.mono (by omega)) (hrow.mono hc)
  · simp [intR]
    omega
end
/-- a store in which the bag at n has been drawn from, at most m times in all -/
def Dr (n m : Nat) (st0 st : Sto) : Prop := n < st0.length ∧ ∃ b, Bag m b ∧ st = st0.set n (some b)
section
variable {st st0 : Sto} {k : KS} {x : XS0} {n m : Nat}
theorem Dr.len (h : Dr n m st0 st) : st.length = st0.length := by
  obtain ⟨_, b, _, rfl⟩ := h
  simp
theorem Dr.take {st1 : Sto} {m' : Nat} (h : Dr n m' st0 st1) (h0 : Dr n m st0 st) : st1.take st.length = st1 := by
  rw [h0.len, ← h.len, List.take_length]
theorem Dr.start {b : List D} (hn : st0[n]? = some (some b)) (hb : Bag m b) : Dr n m st0 st0 := by
  have hl := (List.getElem?_eq_some_iff.mp hn)
  obtain ⟨h1, h2⟩ := hl
  refine ⟨h1, b, hb, ?_⟩
  rw [← h2, List.set_getElem_self]
theorem Dr.at (h : Dr n m st0 st) : ∃ b, Bag m b ∧ st[n]? = some (some b) := by
  obtain ⟨h1, b, hb, rfl⟩ := h
  exact ⟨b, hb, by rw [List.getElem?_set_self h1]⟩
theorem Dr.mono {m' : Nat} (h : Dr n m st0 st) (hm : m ≤ m') : Dr n m' st0 st := by
  obtain ⟨h1, b, hb, e⟩ := h
  exact ⟨h1, b, hb.mono hm, e⟩
theorem r_takeD {lim : Int} (hd : Dr n m st0 st) (hm : m ≤ 1000000) (h0 : 0 < lim) (h1 : lim < 2 ^ 200) (h : ∀ st' (i : Int), Dr n (m + 1) st0 st' → 0 ≤ i → i < lim → k (.d (.int i)) st') : F_law_take [.l n, .d (.int lim)] st k x := by
  obtain ⟨b, hb, hn⟩ := hd.at
  try simp
  refine r_law_take hn hb hm h0 h1 fun b' i hb' hi => h _ i ⟨hd.1, b', hb', ?_⟩ (by omega) hi
  obtain ⟨_, b0, _, rfl⟩ := hd
  rw [List.set_set]
theorem r_takeL {lim : Int} {l : Sto} (hd : Dr n m st0 st) (hm : m ≤ 1000000) (h0 : 0 < lim) (h1 : lim < 2 ^ 200) (h : ∀ st' (i : Int), Dr n (m + 1) st0 st' → 0 ≤ i → i < lim → k (.d (.int i)) (st' ++ l)) : F_law_take [.l n, .d (.int lim)] (st ++ l) k x := by
  obtain ⟨b, hb, hn⟩ := hd.at
  have hl : n < st.length := (List.getElem?_eq_some_iff.mp hn).1
  try simp
  refine r_law_take (b := b) (m := m) (by rw [List.getElem?_append_left hl]; exact hn) hb hm h0 h1 fun b' i hb' hi => ?_
  rw [List.set_append_left _ _ hl]
  refine h _ i ⟨hd.1, b', hb', ?_⟩ (by omega) hi
  obtain ⟨_, b0, _, rfl⟩ := hd
  rw [List.set_set]
theorem pick2 {P : Int → Prop} {a b i : Int} (h0 : 0 ≤ i) (h1 : i < 2) (ha : P a) (hb : P b) : ∃ c, atI [PyData.int a, PyData.int b] i = some (.int c) ∧ P c := by
  have : i = 0 ∨ i = 1 := by omega
  rcases this with rfl | rfl
  · exact ⟨a, rfl, ha⟩
  · exact ⟨b, rfl, hb⟩
theorem pick3 {P : Int → Prop} {a b c i : Int} (h0 : 0 ≤ i) (h1 : i < 3) (ha : P a) (hb : P b) (hc : P c) : ∃ d, atI [PyData.int a, PyData.int b, PyData.int c] i = some (.int d) ∧ P d := by
  have : i = 0 ∨ i = 1 ∨ i = 2 := by omega
  rcases this with rfl | rfl | rfl
  · exact ⟨a, rfl, ha⟩
  · exact ⟨b, rfl, hb⟩
  · exact ⟨c, rfl, hc⟩
/-- a list of ints, all of a kind -/
def IntsP (P : Int → Prop) (ds : List D) : Prop := ∃ is : List Int, ds = is.map .int ∧ ∀ i ∈ is, P i
theorem IntsP.nil {P : Int → Prop} : IntsP P [] := ⟨[], rfl, by simp⟩
theorem IntsP.add {P : Int → Prop} {ds : List D} {i : Int} (h : IntsP P ds) (hi : P i) : IntsP P (ds ++ [.int i]) := by
  obtain ⟨is, rfl, h⟩ := h
  refine ⟨is ++ [i], by simp, fun j hj => ?_⟩
  rcases List.mem_append.mp hj with hj | hj
  · exact h j hj
  · rw [List.mem_singleton.mp hj]
    exact hi
theorem IntsP.two {P : Int → Prop} {ds : List D} (h : IntsP P ds) (hl : ds.length = 2) : ∃ a b, ds = [.int a, .int b] ∧ P a ∧ P b := by
  obtain ⟨is, rfl, h⟩ := h
  match is, hl with
  | [a, b], _ => exact ⟨a, b, rfl, h a (by simp), h b (by simp)⟩
end
end Dl

/-! plain laws, part 3: forms, layouts, pieces -/
namespace Dl
open PySem
open PySem.Spec
open PyProof.Rows
open L2
structure Frm where
  back : Int
  word : List Nat
  ahead : Int
  depth : Int
def frD (f : Frm) : D := .tuple [.int f.back, .str (S f.word), .int f.ahead, .int f.depth]
structure FrOk (f : Frm) : Prop where
  b0 : 0 ≤ f.back
  a0 : 0 ≤ f.ahead
  low : ∀ c ∈ f.word, c ∈ low
  sz : f.word.length ≤ 1000000
  d1 : f.back ≤ f.depth
  d2 : f.ahead + f.back - f.word.length ≤ f.depth
  d3 : f.depth ≤ f.ahead + f.back
structure Lay where
  before : Int
  gaps : List Int
  behind : Int
def plD (l : Lay) : D := .tuple [.int l.before, .tuple (l.gaps.map .int), .int l.behind]
structure LyOk (l : Lay) : Prop where
  b0 : 0 ≤ l.before
  g1 : ∀ g ∈ l.gaps, 1 ≤ g
  sz : l.gaps.length ≤ 1000000
  e0 : 0 ≤ l.behind
theorem cut_from {α : Type} {l : List α} {i : Int} (h : 0 ≤ i) : cut l (some i) none = l.drop i.toNat := by
  have e : HT.sIx l.length 0 (some i) = min i.toNat l.length := by
    show (if i < 0 then (i + (l.length : Int)).toNat else min i.toNat l.length) = _
    rw [if_neg (by omega)]
  unfold cut
  rw [HT.sIx_none, e]
  by_cases h2 : i.toNat ≤ l.length
  · rw [Nat.min_eq_left h2]
    exact List.take_of_length_le (by simp)
  · rw [Nat.min_eq_right (by omega), List.drop_length, List.drop_eq_nil_of_le (by omega)]
    simp
section
variable {st : Sto} {k : KS} {x : XS0}
theorem r_is_integer {i lo : Int} (h : k (.d (.bool (decide (lo ≤ i)))) st) : F_is_integer [.d (.int i), .d (.int lo), .d .none] st k x := by
  simp [F_is_integer, e_run, w_is_integer, gIs]
  by_cases hi : lo ≤ i
  · simpa [hi] using h
  · simpa [hi] using h
theorem r_is_integer2 {i lo hi : Int} (h : k (.d (.bool (decide (lo ≤ i ∧ i ≤ hi)))) st) : F_is_integer [.d (.int i), .d (.int lo), .d (.int hi)] st k x := by
  simp [F_is_integer, e_run, w_is_integer, gIs]
  by_cases h1 : lo ≤ i
  · simpa [h1] using h
  · simpa [h1] using h
theorem all_true {α : Type} {l : List α} {p : α → Bool} (h : ∀ a ∈ l, p a = true) : (l.map p).all id = true := by
  rw [List.all_map]
  exact List.all_eq_true.mpr h
theorem r_is_layout {l : Lay} (o : LyOk l) (h : k (.d (.bool true)) st) : F_is_layout [.d (plD l)] st k x := by
  simp [F_is_layout, e_run, w_is_layout, plD, g_ne, g_ixT]
  try simp
  refine r_is_integer ?_
  simp [o.b0]
  try simp
  refine r_is_integer ?_
  simp [o.e0]
  try simp
  refine lc1y (α := Int) (fun g => .int g) (fun g => .bool (decide (1 ≤ g))) rfl (fun g _ K X hK => ?_) (sz o.sz) ?_
  · simp
    exact r_is_integer hK
  · try simp
    rw [g_all (boolsD_map _ _), all_true fun g hg => decide_eq_true (o.g1 g hg)]
    simpa using h
theorem r_check_layout {l : Lay} (o : LyOk l) (h : k (.d .none) st) : F_check_layout [.d (plD l)] st k x := by
  simp [F_check_layout, e_run, w_check_layout]
  try simp
  refine r_is_layout o ?_
  simpa using h
theorem r_is_form {f : Frm} (o : FrOk f) (h : k (.d (.bool true)) st) : F_is_form [.d (frD f)] st k x := by
  simp [F_is_form, e_run, w_is_form, frD, g_ne, g_ixT, sizeLine_eq, signs_S, g_lenS]
  try simp
  refine lc1y (α := Int) (l := [f.back, f.ahead, f.depth]) (fun g => .int g) (fun g => .bool (decide (0 ≤ g))) rfl (fun g _ K X hK => ?_) (sz (by simp)) ?_
  · simp
    exact r_is_integer hK
  · have e : ([f.back, f.ahead, f.depth].map fun g => decide (0 ≤ g)).all id = true := all_true fun g hg => by
      have h1 := o.b0
      have h2 := o.a0
      have h3 := o.d1
      simp at hg
      rcases hg with rfl | rfl | rfl <;> simp <;> omega
    try simp
    rw [g_all (bs := [decide (0 ≤ f.back), decide (0 ≤ f.ahead), decide (0 ≤ f.depth)]) rfl, show [decide (0 ≤ f.back), decide (0 ≤ f.ahead), decide (0 ≤ f.depth)].all id = true from e]
    simp
    try simp
    refine lc1y (α := Nat) sign (fun c => .bool (decide (c ∈ low))) rfl (fun c _ K X hK => ?_) (sz o.sz) ?_
    · simp [sign_S]
      exact hK
    · try simp
      rw [g_all (boolsD_map _ _), all_true fun c hc => decide_eq_true (o.low c hc)]
      simp [g_lenS, sizeLine_eq]
      have h1 := o.d1
      have h2 := o.d2
      have h3 := o.d3
      have h4 := o.sz
      refine ⟨by omega, ?_⟩
      have e1 : max f.back (f.ahead + f.back - f.word.length) ≤ f.depth := by omega
      simpa [e1, h1, h2, h3] using h
theorem r_check_form {f : Frm} (o : FrOk f) (h : k (.d .none) st) : F_check_form [.d (frD f)] st k x := by
  simp [F_check_form, e_run, w_check_form]
  try simp
  refine r_is_form o ?_
  simpa using h
theorem r_check_both {l : Lay} {f : Frm} (o : LyOk l) (q : FrOk f) (h : k (.d .none) st) : F_check_both [.d (plD l), .d (frD f)] st k x := by
  simp [F_check_both, e_run, w_check_both]
  try simp
  refine r_check_layout o ?_
  try simp
  refine r_check_form q ?_
  simpa using h
/-! ### pieces -/
def piece (a n : Int) (w : List Nat) : D := .tuple [.int a, .int n, .str (S w)]
structure Pc where
  lo : Int
  n : Int
  w : List Nat
def pcD (p : Pc) : D := .tuple [.int p.lo, .int p.n, .str (S p.w)]
def gapPiece (f : Frm) (g : Int) : Pc := if f.ahead < g - f.back then ⟨f.ahead, g - f.back - f.ahead, f.word⟩ else ⟨0, 0, f.word.drop (f.ahead - (g - f.back)).toNat⟩
theorem r_gap_piece {f : Frm} {g : Int} (q : FrOk f) (h : k (.d (pcD (gapPiece f g))) st) : F_gap_piece [.d (.int g), .d (frD f)] st k x := by
  simp [F_gap_piece, e_run, w_gap_piece, frD, sizeLine_eq, g_slS]
  by_cases hg : f.ahead < g - f.back
  · simpa [hg, gapPiece, pcD] using h
  · have hz := q.sz
    have e : 0 ≤ f.ahead - (g - f.back) := by omega
    simp [hg, cut_from e]
    refine ⟨by omega, ?_⟩
    simpa [hg, gapPiece, pcD] using h
def pieces (l : Lay) (f : Frm) : List Pc := ⟨0, max 0 (l.before - f.back), f.word⟩ :: ((l.gaps.filter fun g => decide (f.depth < g)).map (gapPiece f) ++ [⟨if f.ahead < l.behind then f.ahead else 0, max 0 (l.behind - f.ahead), []⟩])
theorem r_pieces_fromb {l : Lay} {f : Frm} (o : LyOk l) (q : FrOk f) (h : k (.d (.list ((pieces l f).map pcD))) st) : F_pieces_fromb [.d (plD l), .d (frD f)] st k x := by
  have hz := o.sz
  have hf : (l.gaps.filter fun g => decide (f.depth < g)).length ≤ l.gaps.length := List.length_filter_le _ _
  simp [F_pieces_fromb, e_run, w_pieces_fromb, plD, frD, sizeLine_eq]
  try simp
  refine lc1 (α := Int) (l := l.gaps) (fun g => .int g) (fun g => decide (f.depth < g)) (fun g => pcD (gapPiece f g)) rfl (fun g _ K X hK => by simpa using hK) (fun g _ _ K X hK => ?_) (sz hz) ?_
  · simp
    exact r_gap_piece q hK
  · simp [uExtend, uAppend, sizeLine_eq]
    refine ⟨by omega, ?_⟩
    by_cases hb : f.ahead < l.behind
    · simp [hb]
      refine ⟨by omega, ?_⟩
      simpa [pieces, pcD, hb, Function.comp_def] using h
    · simp [hb]
      refine ⟨by omega, ?_⟩
      simpa [pieces, pcD, hb, Function.comp_def] using h
theorem r_pieces_afterb {l : Lay} {f : Frm} (o : LyOk l) (q : FrOk f) (h : k (.d (.list ((pieces l f).map pcD))) st) : F_pieces_afterb [.d (plD l), .d (frD f)] st k x := by
  simp [F_pieces_afterb, e_run, w_pieces_afterb]
  try simp
  refine r_check_both o q ?_
  try simp
  refine r_pieces_fromb o q ?_
  simpa using h
def sizeP (p : Pc) : Int := p.n + p.w.length
def sizesD (l : Lay) (f : Frm) : List Int := (pieces l f).map sizeP
theorem pieces_len (l : Lay) (f : Frm) : (pieces l f).length ≤ l.gaps.length + 2 := by
  have hf : (l.gaps.filter fun g => decide (f.depth < g)).length ≤ l.gaps.length := List.length_filter_le _ _
  simp [pieces]
  omega
/-- the sizes of a list of pieces, as a layout -/
def layD (s : List Int) : D := .tuple [.int (s.headD 0), .tuple ((s.drop 1).dropLast.map .int), .int (s.getLastD 0)]
theorem cut_mid {α : Type} {l : List α} : cut l (some 1) (some (-1)) = (l.drop 1).dropLast := by
  have e1 : HT.sIx l.length 0 (some 1) = min 1 l.length := HT.sIx_nat l.length 0 1
  have e2 : HT.sIx l.length l.length (some (-1)) = l.length - 1 := by
    show (if (-1 : Int) < 0 then ((-1 : Int) + (l.length : Int)).toNat else min (-1 : Int).toNat l.length) = _
    rw [if_pos (by decide)]
    omega
  unfold cut
  rw [e1, e2]
  cases l with
  | nil => rfl
  | cons a l =>
    rw [Nat.min_eq_left (by simp), List.dropLast_eq_take]
    simp
theorem pc_word {l : Lay} {f : Frm} (q : FrOk f) : ∀ p ∈ pieces l f, p.w.length ≤ f.word.length := by
  intro p hp
  simp [pieces] at hp
  rcases hp with rfl | ⟨g, _, rfl⟩ | rfl
  · exact Nat.le_refl _
  · unfold gapPiece
    split
    · exact Nat.le_refl _
    · simp
  · simp
theorem r_layout_by_formb {l : Lay} {f : Frm} (o : LyOk l) (q : FrOk f) (h : k (.d (layD (sizesD l f))) st) : F_layout_by_formb [.d (plD l), .d (frD f)] st k x := by
  have hz := o.sz
  have hl := pieces_len l f
  simp [F_layout_by_formb, e_run, w_layout_by_formb]
  try simp
  refine r_check_both o q ?_
  try simp
  refine r_pieces_fromb o q ?_
  simp
  try simp
  refine lcT (α := Pc) (l := pieces l f) (fun p => [.int p.lo, .int p.n, .str (S p.w)]) (fun _ => true) (fun p => .int (sizeP p)) (fun p => [some (.d (plD l)), some (.d (frD f)), none, some (.d (.int p.lo)), some (.d (.int p.n)), some (.d (.str (S p.w)))]) rfl
    (fun p _ K hK => by simpa [wipeL] using hK) (fun p _ => by simp [wipeL]) (fun p _ K X hK => by simpa using hK) (fun p hp _ K X hK => ?_) (by rw [sizeLine_eq]; omega) ?_
  · have := pc_word q p hp
    have hw := q.sz
    simp [g_lenS, sizeLine_eq]
    exact ⟨by omega, hK⟩
  · rw [List.filter_eq_self.mpr (fun _ _ => rfl)]
    have e1 : (pieces l f).map (fun p => PyData.int (sizeP p)) = (sizesD l f).map .int := by simp [sizesD]
    rw [e1]
    obtain ⟨a, t, e2⟩ : ∃ a t, sizesD l f = a :: t := ⟨_, _, rfl⟩
    rw [e2] at h ⊢
    simp [g_ixL, sizeLine_eq, cut_mid]
    have e3 : (PyData.int a :: List.map PyData.int t).getLast? = some (.int ((a :: t).getLastD 0)) := by
      rw [← List.map_cons, List.getLast?_map, List.getLastD_eq_getLast?, List.getLast?_cons]
      rfl
    rw [e3]
    simpa [layD, List.map_dropLast] using h
theorem r_law_cut {a b : Int} {w : List Nat} (h : k (.d (pcD (if a < b then ⟨a, b - a, w⟩ else ⟨0, 0, w⟩))) st) : F_law_cut [.d (.int a), .d (.int b), .d (.str (S w))] st k x := by
  simp [F_law_cut, e_run, w_law_cut, sizeLine_eq]
  by_cases hb : a < b
  · simpa [hb, pcD] using h
  · simpa [hb, pcD] using h
theorem drop_range (w : List Nat) (L : Nat) : (List.range (w.length - L)).map (fun i => w[L + i]?.getD 0) = w.drop L := by
  apply List.ext_getElem?
  intro i
  rw [List.getElem?_map, List.getElem?_drop]
  by_cases h : i < w.length - L
  · rw [List.getElem?_range h, List.getElem?_eq_getElem (by omega)]
    simp [List.getD]
    rw [List.getElem?_eq_getElem (by omega)]
    rfl
  · rw [List.getElem?_eq_none (by simpa using h), List.getElem?_eq_none (by omega)]
    rfl
def cutPiece (f : Frm) (g : Int) : Pc := if f.ahead < g - f.back then ⟨f.ahead, g - f.back - f.ahead, f.word.drop (max 0 (f.ahead - (g - f.back))).toNat⟩ else ⟨0, 0, f.word.drop (max 0 (f.ahead - (g - f.back))).toNat⟩
theorem cut_gap (f : Frm) (g : Int) : cutPiece f g = gapPiece f g := by
  unfold cutPiece gapPiece
  by_cases h : f.ahead < g - f.back
  · rw [if_pos h, if_pos h]
    have : max 0 (f.ahead - (g - f.back)) = 0 := by omega
    rw [this]
    rfl
  · rw [if_neg h, if_neg h]
    have : max 0 (f.ahead - (g - f.back)) = f.ahead - (g - f.back) := by omega
    rw [this]
theorem r_law_due_v1 {l : Lay} {f : Frm} (o : LyOk l) (q : FrOk f) (h : k (.d (.list ((pieces l f).map pcD))) st) : F_law_due_v1 [.d (plD l), .d (frD f)] st k x := by
  have hz := o.sz
  have hw := q.sz
  simp [F_law_due_v1, e_run, w_law_due_v1, plD, frD, sizeLine_eq]
  try simp
  refine r_law_cut ?_
  simp [sizeLine_eq]
  have e0 : (if (0 : Int) < l.before - f.back then (⟨0, l.before - f.back - 0, f.word⟩ : Pc) else ⟨0, 0, f.word⟩) = ⟨0, max 0 (l.before - f.back), f.word⟩ := by
    by_cases hb : 0 < l.before - f.back
    · rw [if_pos hb, Int.max_eq_right (by omega), Int.sub_zero]
    · rw [if_neg hb, Int.max_eq_left (by omega)]
  try simp
  refine loopF_fold (α := Int) (σ := List Pc) (fun g => .int g) (fun s g => if f.depth < g then s ++ [gapPiece f g] else s) (fun l s => s.length + l.length ≤ 1000001)
    (fun s r => ∃ y10 y11 : Option D, r = ⟨[some (.d (.tuple [.int l.before, .tuple (l.gaps.map .int), .int l.behind])), some (.d (.tuple [.int f.back, .str (S f.word), .int f.ahead, .int f.depth])), some (.d (.int l.before)), some (.d (.tuple (l.gaps.map .int))), some (.d (.int l.behind)), some (.d (.int f.back)), some (.d (.str (S f.word))), some (.d (.int f.ahead)), some (.d (.int f.depth)), some (.l st.length), y10.map R.d, y11.map R.d, none], st ++ [some (s.map pcD)]⟩)
    ?_ ?_ l.gaps [⟨0, max 0 (l.before - f.back), f.word⟩] _ (by simp; omega) ⟨none, none, ?_⟩ ?_
  · rintro g l2 s r K hI ⟨y10, y11, rfl⟩ hK
    simp only [List.length_cons] at hI
    simp [sizeLine_eq, g_lenS]
    by_cases hg : f.depth < g
    · rw [if_pos hg]
      have h1 := q.d1
      have h2 := q.d2
      refine ⟨by omega, by omega, ?_⟩
      have hL : (max 0 (f.ahead - (g - f.back))).toNat ≤ f.word.length := by omega
      have eL : max 0 (f.ahead - (g - f.back)) = ((max 0 (f.ahead - (g - f.back))).toNat : Int) := by omega
      have el : ((f.word.length : Int) - max 0 (f.ahead - (g - f.back))).toNat = f.word.length - (max 0 (f.ahead - (g - f.back))).toNat := by omega
      rw [el]
      have hcut := cut_gap f g
      unfold cutPiece at hcut
      rw [eL] at hcut ⊢
      generalize (max 0 (f.ahead - (g - f.back))).toNat = L at *
      simp only [Int.toNat_natCast] at hcut ⊢
      try simp
      refine lc1y (α := Nat) (fun i => .int (L + i)) (fun i => .str (S [f.word[L + i]?.getD 0])) rfl (fun i hi K X hK => ?_) (by simp [sizeLine_eq]; omega) ?_
      · have hi' : L + i < f.word.length := by
          have := List.mem_range.mp hi
          omega
        have ec : ((L : Int) + (i : Int)) = ((L + i : Nat) : Int) := by omega
        simp [g_ixS, sizeLine_eq]
        refine ⟨by omega, ?_⟩
        rw [ec, atI_cast, List.getElem?_eq_getElem hi']
        simpa [List.getD, hi'] using hK
      · have es : strsD ((List.range (f.word.length - L)).map fun i => PyData.str (S [f.word[L + i]?.getD 0])) = some ((f.word.drop L).map fun c => S [c]) := by
          rw [strsD_map (fun i => S [f.word[L + i]?.getD 0]), ← drop_range f.word L, List.map_map]
          rfl
        try simp
        rw [mJ es, sum_ones, join_nil]
        refine ⟨by simp; omega, ?_⟩
        try simp
        refine r_law_cut ?_
        rw [hcut]
        simp [uAppend, sizeLine_eq]
        refine ⟨by omega, hK _ ⟨some (.int g), some (.int L), by simp [hg]⟩⟩
    · rw [if_neg hg]
      exact hK _ ⟨some (.int g), y11, by simp [hg]⟩
  · intro g l2 s hI
    simp only [List.length_cons] at hI
    split
    · simp
      omega
    · omega
  · rw [Int.sub_zero] at e0
    simp at e0
    rw [e0]
    rfl
  · rintro r ⟨y10, y11, rfl⟩
    have ef : ∀ (gs : List Int) (s : List Pc), gs.foldl (fun s g => if f.depth < g then s ++ [gapPiece f g] else s) s = s ++ (gs.filter fun g => decide (f.depth < g)).map (gapPiece f) := by
      intro gs
      induction gs with
      | nil => simp
      | cons g gs ih =>
        intro s
        rw [List.foldl_cons, ih]
        by_cases hg : f.depth < g
        · simp [hg]
        · simp [hg]
    have hl := pieces_len l f
    simp [sizeLine_eq]
    try simp
    refine r_law_cut ?_
    rw [ef]
    have hp : pieces l f = ⟨0, max 0 (l.before - f.back), f.word⟩ :: ((l.gaps.filter fun g => decide (f.depth < g)).map (gapPiece f) ++ [⟨if f.ahead < l.behind then f.ahead else 0, max 0 (l.behind - f.ahead), []⟩]) := rfl
    have e1 : (if f.ahead < l.behind then (⟨f.ahead, l.behind - f.ahead, []⟩ : Pc) else ⟨0, 0, []⟩) = ⟨if f.ahead < l.behind then f.ahead else 0, max 0 (l.behind - f.ahead), []⟩ := by
      by_cases hb : f.ahead < l.behind
      · rw [if_pos hb, if_pos hb, Int.max_eq_right (by omega)]
      · rw [if_neg hb, if_neg hb, Int.max_eq_left (by omega)]
    rw [e1]
    rw [hp] at hl h
    simp at hl h ⊢
    refine ⟨by omega, ?_⟩
    exact h
end
end Dl

/-! plain laws, part 4: pools -/
namespace Dl
open PySem
open PySem.Spec
open PyProof.Rows
open L2
section
variable {st st0 : Sto} {k : KS} {x : XS0} {n m : Nat}
theorem small_log {i : Int} (h0 : 0 ≤ i) (h : i < 2 ^ 200) : i.natAbs.log2 < 200 := log2_le h0 h (by decide)
theorem r_law_pool {ns : List Int} {j : Nat} (hj : j ≤ 1000) (h : ∀ b, Bag 0 b → k (.l st.length) (st ++ [some b])) : F_law_pool [.o (.scr ns), .d (.int j)] st k x := by
  have go : ∀ c : Int, Bag 0 [.int (max 0 ((if c < 0 then -c else c) - 1000000000000000000)), .int (c % 10000000000000000000000000000000000000121 * 89 + 31 * j + 7), .int 0] := fun c => by
    refine ⟨_, _, _, rfl, ?_, ?_, by omega, by omega⟩
    · omega
    · have : (10000000000000000000000000000000000000121 : Int) * 89 + 31 * 1000 + 7 ≤ 2 ^ 160 := by decide
      omega
  have e1 : ((31 : Int) * j).natAbs.log2 < 200 := small_log (by omega) (by omega)
  have gA : ∀ (i : Int) (kk : D → Prop), gAbs [.int i] kk = kk (.int (if i < 0 then -i else i)) := fun _ _ => rfl
  have l1 : j.log2 < 200 := by
    have := small_log (i := (j : Int)) (by omega) (by omega)
    simpa using this
  have l2 : (10 : Nat).log2 < 200 := by decide
  have l3 : (89 : Nat).log2 < 200 := by decide
  have l4 : (31 : Nat).log2 < 200 := by decide
  simp [F_law_pool, e_run, w_law_pool, sizeLine_eq]
  by_cases hjn : j < ns.length
  · rw [if_pos hjn, List.getElem?_eq_getElem hjn]
    have l5 : (ns[j] % 10000000000000000000000000000000000000121).natAbs.log2 < 200 := small_log (by omega) (by omega)
    simp [gA]
    exact ⟨by omega, by omega, by omega, h _ (go ns[j])⟩
  · rw [if_neg hjn]
    simp [gA]
    have := go 0
    simp at this
    exact ⟨by omega, by omega, by omega, h _ this⟩
theorem r_law_draw {lim : Int} (hd : Dr n m st0 st) (hm : m ≤ 1000000) (h0 : 0 < lim) (h1 : lim < 2 ^ 200) (h : ∀ st' (i : Int), Dr n (m + 1) st0 st' → 0 ≤ i → i < lim → k (.d (.int i)) st') : F_law_draw [.l n, .d (.int lim)] st k x := by
  obtain ⟨b0, hb, hn⟩ := hd.at
  obtain ⟨a, b, c, rfl, hb0, hb1, hc0, hc1⟩ := hb
  have hl : n < st.length := (List.getElem?_eq_some_iff.mp hn).1
  have fin : ∀ (i : Int) (b' : List D), Bag (m + 1) b' → k (.d (.int (i % lim))) (st.set n (some b')) := fun i b' hb' => by
    refine h _ _ ⟨hd.1, b', hb', ?_⟩ (Int.emod_nonneg _ (by omega)) (Int.emod_lt_of_pos _ h0)
    obtain ⟨_, b0, _, rfl⟩ := hd
    rw [List.set_set]
  have lg : lim.natAbs.log2 < 9000 := Nat.lt_trans (small_log (by omega) h1) (by decide)
  simp [F_law_draw, e_run, w_law_draw, e_lstAt hn, g_ixL, e_lstSet hl]
  by_cases ha : 0 < a
  · rw [if_pos ha]
    exact ⟨h0, ⟨h0, lg⟩, fin _ _ ⟨_, _, _, rfl, hb0, hb1, hc0, by omega⟩⟩
  · rw [if_neg ha]
    have c20 : (c + 1).natAbs.log2 < 200 := small_log (by omega) (by omega)
    have l1 : (472882027 : Nat).log2 < 200 := by decide
    have l2 : (86028121 : Nat).log2 < 200 := by decide
    have l3 : (b + 472882027 * (c + 1)).natAbs.log2 < 200 := small_log (by omega) (by omega)
    have l5 : (10 : Nat).log2 < 200 := by decide
    have l4 : ((b + 472882027 * (c + 1)) ^ 3 % 100000000000000000000000000000000000000037 + 86028121 * (c + 1)).natAbs.log2 < 200 := by
      generalize (b + 472882027 * (c + 1)) ^ 3 = y
      exact small_log (by omega) (by omega)
    exact ⟨by omega, by omega, by omega, by omega, by omega, by omega, by decide, h0, fin _ _ ⟨_, _, _, rfl, hb0, hb1, by omega, by omega⟩⟩
/-- any text of drawn strokes -/
theorem pickL {P : List Nat → Prop} {L : List (List Nat)} (hP : ∀ l ∈ L, P l) {i : Int} (h0 : 0 ≤ i) (h1 : i < L.length) : ∃ l, atI (L.map fun l => PyData.str (S l)) i = some (.str (S l)) ∧ P l := by
  obtain ⟨N, rfl⟩ : ∃ N : Nat, i = N := ⟨i.toNat, by omega⟩
  have hN : N < L.length := by omega
  refine ⟨L[N], ?_, hP _ (List.getElem_mem hN)⟩
  rw [atI_cast, List.getElem?_map, List.getElem?_eq_getElem hN]
  rfl
theorem pickS {P : Nat → Prop} {L : List Nat} (hP : ∀ l ∈ L, P l) {i : Int} (h0 : 0 ≤ i) (h1 : i < L.length) : ∃ l, atI L i = some l ∧ P l := by
  obtain ⟨N, rfl⟩ : ∃ N : Nat, i = N := ⟨i.toNat, by omega⟩
  have hN : N < L.length := by omega
  exact ⟨L[N], by rw [atI_cast, List.getElem?_eq_getElem hN], hP _ (List.getElem_mem hN)⟩
def KeyRow (n : Nat) (l : List Nat) : Prop := l.length ≤ n ∧ ∀ c ∈ l, isKeyB c = true
def strokeSets : List (List Nat) := [[97, 98, 45, 35], [60, 62, 45, 35], [120, 45, 35, 60, 62], [60, 62, 97], [45], [35], [97, 98, 99, 100, 101, 102, 103, 104, 105, 106, 107, 108, 109, 110, 111, 112, 113, 114, 115, 116, 117, 118, 119, 120, 121, 122, 45, 35, 60, 62]]
theorem strokeSets_ok : ∀ l ∈ strokeSets, l ≠ [] ∧ l.length ≤ 30 ∧ ∀ c ∈ l, isKeyB c = true := by decide
theorem r_law_strokes {top : Nat} (hd : Dr n m st0 st) (hm : m ≤ 900000) (ht : top ≤ 1000) (h : ∀ st' row, Dr n (m + top + 10) st0 st' → KeyRow (top + 5) row → k (.d (.str (S row))) st') : F_law_strokes [.l n, .d (.int top)] st k x := by
  simp [F_law_strokes, e_run, w_law_strokes, sizeLine_eq]
  refine r_law_draw hd (by omega) (by decide) (by decide) fun st1 i1 hd1 hi1 hj1 => ?_
  try simp
  obtain ⟨sg, hsg, hs1, hs2, hs3⟩ := pickL strokeSets_ok hi1 (by simpa [strokeSets] using hj1)
  simp only [strokeSets, List.map_cons, List.map_nil] at hsg
  rw [g_ixLs hsg]
  try simp
  refine r_law_draw hd1 (by omega) (by decide) (by decide) fun st2 i2 hd2 hi2 hj2 => ?_
  try simp
  refine r_law_draw hd2 (by omega) (by omega) (by omega) fun st3 i3 hd3 hi3 hj3 => ?_
  try simp
  refine r_law_draw hd3 (by omega) (by decide) (by decide) fun st4 i4 hd4 hi4 hj4 => ?_
  try simp
  obtain ⟨c, hc, hp⟩ := pick2 (P := fun i => 0 ≤ i ∧ i ≤ top + 5) (a := i2) (b := i3) hi4 hj4 ⟨hi2, by omega⟩ ⟨hi3, by omega⟩
  rw [g_ixLs hc]
  try simp
  obtain ⟨N, rfl⟩ : ∃ N : Nat, c = N := ⟨c.toNat, by omega⟩
  refine ⟨by omega, by omega, ?_⟩
  have h9 : Dr n (m + 4) st0 st4 := hd4.mono (by omega)
  have hsl : 0 < sg.length := List.length_pos_iff.mpr hs1
  refine lcI (α := Nat) (fun i => .int (0 + i)) (fun l acc st' => acc.length + l.length = N ∧ (∃ ws : List Nat, acc = ws.map (fun c => .str (S [c])) ∧ ∀ c ∈ ws, isKeyB c = true) ∧ Dr n (m + 4 + acc.length) st0 st') (fun a1 l acc st1 K X hI hK => ?_) (l := List.range N) rfl (by simp [sizeLine_eq]; omega) ⟨by simp, ⟨[], rfl, by simp⟩, by simpa using h9⟩ (fun acc st1 hI => ?_)
  · obtain ⟨q1, ⟨ws, rfl, q2⟩, q3⟩ := hI
    simp at q1 q3
    simp [g_lenS, sizeLine_eq]
    refine ⟨by omega, ?_⟩
    refine r_law_draw q3 (by omega) (by omega) (by omega) fun st5 i5 hd5 hi5 hj5 => ?_
    simp [g_ixS, sizeLine_eq]
    refine ⟨by omega, ?_⟩
    obtain ⟨c, hc, hl⟩ := pickS hs3 hi5 hj5
    rw [hc]
    have := hK (.str (S [c])) st5 ⟨by simp; omega, ⟨ws ++ [c], by simp, fun d hd => ?_⟩, hd5.mono (by simp; omega)⟩
    · simpa using this
    · rcases List.mem_append.mp hd with hd | hd
      · exact q2 d hd
      · rw [List.mem_singleton.mp hd]
        exact hl
  · obtain ⟨q1, ⟨ws, rfl, q2⟩, q3⟩ := hI
    simp at q1 q3
    try simp
    rw [mJ (strsD_map (fun c => S [c]) ws), sum_ones, join_nil]
    refine ⟨by simp; omega, ?_⟩
    try simp
    rw [q3.take hd]
    exact h _ _ (q3.mono (by omega)) ⟨by omega, q2⟩
end
end Dl

/-! plain law k01 -/
namespace Dl
open PySem
open PySem.Spec
open PyProof.Rows
open L2
section
variable {st st0 : Sto} {k : KS} {x : XS0} {n m : Nat}
theorem low_iff (c : Nat) : c ∈ low ↔ 97 ≤ c ∧ c ≤ 122 := by
  constructor
  · intro h
    have : ∀ c ∈ low, 97 ≤ c ∧ c ≤ 122 := by decide
    exact this c h
  · rintro ⟨h1, h2⟩
    have : ∀ i, i < 26 → 97 + i ∈ low := by decide
    have := this (c - 97) (by omega)
    rwa [show 97 + (c - 97) = c by omega] at this
theorem g_leS1 {a b : Nat} {kb : Bool → Prop} : gLe (.str (S [a])) (.str (S [b])) kb = kb (decide (a ≤ b)) := by
  show kb (!decide ([b] < [a])) = _
  congr 1
  by_cases h : a ≤ b
  · rw [decide_eq_true h]
    have : ¬ [b] < [a] := by
      intro z
      simp [List.cons_lt_cons_iff] at z
      omega
    rw [decide_eq_false this]
    rfl
  · rw [decide_eq_false h]
    have : [b] < [a] := by
      simp [List.cons_lt_cons_iff]
      omega
    rw [decide_eq_true this]
    rfl
theorem g_notinT4 {a b c d e : List Nat} {kb : Bool → Prop} : gNotIn (.str (S a)) (.tuple [.str (S b), .str (S c), .str (S d), .str (S e)]) kb = kb (!(decide (a = b) || (decide (a = c) || (decide (a = d) || decide (a = e))))) := by
  show gIn _ _ (fun b => kb (!b)) = _
  rw [g_inT4]
/-- data as it is asked about -/
def isListD (d : D) : Bool := match d with
  | .str z => z.cps.toList.all isKeyB
  | _ => false
def Good (d : D) : Prop := match d with
  | .str z => z.cps.toList.length ≤ 1000000 ∧ ∀ c ∈ z.cps.toList, c < 0x110000
  | _ => True
theorem str_S (z : Str) : z = S z.cps.toList := by
  obtain ⟨a⟩ := z
  show (⟨a⟩ : Str) = ⟨a.toList.toArray⟩
  simp
theorem r_is_keys_any {d : D} (hg : Good d) (h : k (.d (.bool (isListD d))) st) : F_is_keys [.d d] st k x := by
  cases d with
  | str z =>
    have h' : k (.d (.bool (z.cps.toList.all isKeyB))) st := h
    have hg' : z.cps.toList.length ≤ 1000000 := hg.1
    rw [str_S z]
    exact r_is_keys hg' h'
  | _ =>
    simp [F_is_keys, e_run, w_is_keys]
    exact h
theorem g_eqNil {xs : List D} {kb : Bool → Prop} {h w : Nat} (f : Fit h w (.list xs)) (hh : h ≤ 64) (q : kb xs.isEmpty) : gEq (.list xs) (.list []) kb := by
  refine ⟨f.shp hh, ?_, ?_⟩
  · show (PyData.canLay0 (.list []) && decide ((PyData.list []).depth ≤ 64)) = true
    simp [PyData.canLay0, PyData.canLayAll0, PyData.depth, PyData.depthAll]
  · have e : eqd (.list xs) (.list []) = xs.isEmpty := by
      show PyData.eqv _ _ = _
      cases xs <;> simp [PyData.eqv, PyData.eqvAll]
    rw [e]
    exact q
theorem r_is_list_any {d : D} (hg : Good d) (h : k (.d (.bool (isListD d))) st) : F_law_is_list [.d d] st k x := by
  cases d with
  | str z =>
    have h' : k (.d (.bool (z.cps.toList.all isKeyB))) st := h
    obtain ⟨hg1, hg2⟩ := hg
    rw [str_S z]
    generalize z.cps.toList = l at *
    simp [F_law_is_list, e_run, w_law_is_list, signs_S]
    refine lc1 (α := Nat) (l := l) sign (fun c => !isKeyB c) sign rfl (fun c _ K X hK => ?_) (fun c _ _ K X hK => by simpa using hK) (sz hg1) ?_
    · simp [sign_S, g_leS1, g_notinT4, sizeLine_eq]
      have e1 : (!isKeyB c) = (!decide (97 ≤ c ∧ c ≤ 122) && (!decide (c = 45) && (!decide (c = 35) && (!decide (c = 60) && !decide (c = 62))))) := by
        have := low_iff c
        simp [isKeyB, this]
      rw [e1] at hK
      simp [sign_S] at hK
      by_cases h1 : 97 ≤ c
      · by_cases h2 : c ≤ 122
        · simpa [h1, h2] using hK
        · simpa [h1, h2] using hK
      · simpa [h1] using hK
    · try simp
      have hf : Fit 1 (1000000 * 2) (.list ((l.filter fun c => !isKeyB c).map sign)) := fit_list (h := 0) (w := 1) (n := 1000000) (fun d hd => by
        obtain ⟨c, hc, rfl⟩ := List.mem_map.mp hd
        have := hg2 c (List.mem_filter.mp hc).1
        exact (fit_str (l := [c]) (by simpa using this)).mono (Nat.le_refl _) (by simp)) (by
        have := List.length_filter_le (fun c => !isKeyB c) l
        simp
        omega)
      refine g_eqNil hf (by decide) ?_
      have e2 : ((l.filter fun c => !isKeyB c).map sign).isEmpty = l.all isKeyB := by
        rw [Bool.eq_iff_iff]
        simp [List.isEmpty_iff, List.filter_eq_nil_iff]
      rw [e2]
      exact h'
  | _ =>
    simp [F_law_is_list, e_run, w_law_is_list]
    exact h
theorem upper_mem {l : List Nat} {c : Nat} (h : c ∈ (Txt.upper (S l)).cps.toList) : ∃ d ∈ l, c ∈ Unicode.upperOf d := by
  have h2 : c ∈ ((l.toArray.mapIdx fun _ c => (Unicode.upperOf c).toArray).flatten).toList := h
  rw [Array.toList_flatten] at h2
  simp at h2
  obtain ⟨_, ⟨_, ⟨i, hi, rfl⟩, rfl⟩, hc⟩ := h2
  exact ⟨l[i], List.getElem_mem hi, by simpa using hc⟩
theorem upper_small : ∀ d : Nat, isKeyB d = true → ∀ c ∈ Unicode.upperOf d, c < 0x110000 := by
  intro d hd
  have hm : d ∈ (low ++ [45, 35, 60, 62]) := by
    simp [isKeyB] at hd
    simp
    exact hd
  have all : ∀ d ∈ (low ++ [45, 35, 60, 62]), ∀ c ∈ Unicode.upperOf d, c < 0x110000 := by decide +kernel
  exact all d hm
theorem cut_mem {α : Type} {l : List α} {lo hi : Option Int} {c : α} (h : c ∈ cut l lo hi) : c ∈ l := List.mem_of_mem_drop (List.mem_of_mem_take h)
theorem cut_len {α : Type} {l : List α} {lo hi : Option Int} : (cut l lo hi).length ≤ l.length := by
  unfold cut
  rw [List.length_take, List.length_drop]
  omega
def GS1 (n : Nat) (l : List Nat) : Prop := l.length ≤ n ∧ ∀ c ∈ l, c < 0x110000
theorem GS1.good {n : Nat} {l : List Nat} (h : GS1 n l) (hn : n ≤ 1000000) : Good (.str (S l)) := ⟨Nat.le_trans (by simpa using h.1) hn, by simpa using h.2⟩
theorem GS1.cut {n : Nat} {l : List Nat} {lo hi : Option Int} (h : GS1 n l) : GS1 n (cut l lo hi) := ⟨Nat.le_trans cut_len h.1, fun c hc => h.2 c (cut_mem hc)⟩
theorem GS1.app {n m : Nat} {l r : List Nat} (h : GS1 n l) (q : GS1 m r) : GS1 (n + m) (l ++ r) := ⟨by rw [List.length_append]; have := h.1; have := q.1; omega, fun c hc => (List.mem_append.mp hc).elim (h.2 c) (q.2 c)⟩
theorem key_small {c : Nat} (h : isKeyB c = true) : c < 0x110000 := by
  simp [isKeyB, low_iff] at h
  omega
theorem KeyRow.gs {n : Nat} {l : List Nat} (h : KeyRow n l) : GS1 n l := ⟨h.1, fun c hc => key_small (h.2 c hc)⟩
def odds : List (List Nat) := [[65], [90], [32], [124], [95], [43], [61], [48], [57], [46], [10], [9], [96], [123], [64], [91], [42], [47], [33], [120]]
theorem odds_ok : ∀ l ∈ odds, GS1 1 l := by
  intro l hl
  have : ∀ l ∈ odds, l.length ≤ 1 ∧ ∀ c ∈ l, c < 0x110000 := by decide
  exact this l hl
theorem r_law_bent {row : List Nat} (hd : Dr n m st0 st) (hm : m ≤ 900000) (hr : KeyRow 65 row) (h : ∀ st' ds, Dr n (m + 2) st0 st' → (∀ d ∈ ds, Good d) → ds.length ≤ 20 → k (.d (.list ds)) st') : F_law_bent [.l n, .d (.str (S row))] st k x := by
  have hz := hr.1
  simp [F_law_bent, e_run, w_law_bent, sizeLine_eq, g_lenS]
  refine ⟨by omega, ?_⟩
  refine r_law_draw hd (by omega) (by omega) (by omega) fun st1 i1 hd1 hi1 hj1 => ?_
  try simp [sizeLine_eq]
  refine r_law_draw hd1 (by omega) (by decide) (by decide) fun st2 i2 hd2 hi2 hj2 => ?_
  try simp [sizeLine_eq]
  obtain ⟨odd, ho, hg⟩ := pickL odds_ok hi2 (by simpa [odds] using hj2)
  simp only [odds, List.map_cons, List.map_nil] at ho
  rw [g_ixLs ho]
  have hol := hg.1
  have c1 : (cut row none (some i1)).length ≤ row.length := cut_len
  have c2 : (cut row (some i1) none).length ≤ row.length := cut_len
  have c3 : (cut row (some (i1 + 1)) none).length ≤ row.length := cut_len
  have gU : ∀ kk : D → Prop, (row.length ≤ 5592405 ∧ kk (.str (Txt.upper (S row)))) → mUpper (.str (S row)) [] kk := fun kk q => by
    show ((S row).length ≤ 5592405 ∧ _)
    rw [S_len]
    exact q
  simp [g_slS, g_addS, sizeLine_eq, g_lstAS, g_lenS]
  refine ⟨by omega, by omega, by omega, by omega, by omega, by omega, by omega, by omega, by omega, by omega, by omega, ?_⟩
  refine gU _ ⟨by omega, by omega, ?_⟩
  rw [hd2.take hd]
  have g0 := hr.gs
  have gup : Good (.str (Txt.upper (S row))) := by
    refine ⟨?_, fun c hc => ?_⟩
    · have := PyProof.Rows.len_upper (S row)
      have e3 : (S row).length = row.length := S_len
      have e : (Txt.upper (S row)).cps.toList.length = (Txt.upper (S row)).length := by
        rw [Array.length_toList]
        rfl
      exact Nat.le_trans (Nat.le_of_eq e) (by omega)
    · obtain ⟨d, hd', hcd⟩ := upper_mem hc
      exact upper_small d (hr.2 d hd') c hcd
  refine h st2 _ (hd2.mono (by omega)) (fun d hd' => ?_) (by simp)
  simp only [List.mem_cons, List.not_mem_nil, or_false] at hd'
  rcases hd' with rfl | rfl | rfl | rfl | rfl | rfl | rfl | rfl | rfl | rfl
  · exact (g0.cut.app (hg.app g0.cut)).good (by decide)
  · exact (g0.cut.app (hg.app g0.cut)).good (by decide)
  · exact (g0.cut.app g0.cut).good (by decide)
  · trivial
  · trivial
  · trivial
  · trivial
  · exact hg.good (by decide)
  · exact gup
  · exact (hg.app hg).good (by decide)
theorem fit_bb (a b : Bool) : Fit 1 2 (.list [.bool a, .bool b]) := fit_list (h := 0) (w := 0) (n := 2) (fun d hd => by
  simp at hd
  rcases hd with rfl | rfl <;> exact fit_bool) (by simp)
theorem body01 {ns : List Int} {d : D} {j : Nat} {y3 y4 y6 y7 y8 y9 : Option R} (hg : Good d) (p : Post) (l0 : Nat) (hK : ∀ y6 : D, p.nx ⟨[some (.o (.scr ns)), some (.d (.int j)), some (.l l0), y3, y4, some (.d d), some (.d y6), y7, y8, y9], st⟩) :
    wSeq (wSet 6 (wCall 1 F_law_is_list (wCons (wVar 5) wNil)))
      (wIfS (wCmpT gNe (wB gRepr (wCons (wDat (wLst (wCons (wCall 1 F_is_keys (wCons (wVar 5) wNil)) (wCons (wCallK0 1 1 F_is_keys [0] (wCons (wVar 5) wNil)) wNil)))) wNil)) (wB gRepr (wCons (wDat (wLst (wCons (wVar 6) (wCons (wVar 6) wNil)))) wNil))) (wRet (wC (.bool false))) wNext) ⟨[some (.o (.scr ns)), some (.d (.int j)), some (.l l0), y3, y4, some (.d d), y6, y7, y8, y9], st⟩ p := by
  simp
  refine r_is_list_any hg ?_
  try simp
  refine r_is_keys_any hg ?_
  try simp
  refine r_is_keys_any hg ?_
  try simp [sizeLine_eq]
  refine (fit_bb _ _).repr (by decide) (by decide) ?_
  try simp [sizeLine_eq]
  refine (fit_bb _ _).repr (by decide) (by decide) ?_
  rw [g_neZ]
  try simp
  exact hK _
theorem g_isnotB {a b : Bool} {kb : Bool → Prop} : gIsNot (.bool a) (.bool b) kb = kb (!decide (a = b)) := rfl
theorem g_isB {a b : Bool} {kb : Bool → Prop} : gIs (.bool a) (.bool b) kb = kb (decide (a = b)) := rfl
theorem fit_nil : Fit 1 0 (.list []) := fit_list (h := 0) (w := 0) (n := 0) (fun d hd => by simp at hd) (by simp)
def others : List D := [.none, .bool true, .bool false, .int 0, .int 1, .list [], .tuple [], .dict [], .list [.str (S [97])], .tuple [.str (S [60]), .str (S [62])], .list [.str (S [])], .int 1000000000000000000000000000000000000000, .dict [(.str (S [97]), .str (S [98]))], .str (S [97, 98, 32, 99]), .str (S [60, 124, 62])]
theorem others_ok : ∀ d ∈ others, Good d ∧ isListD d = false := by
  intro d hd
  simp only [others, List.mem_cons, List.not_mem_nil, or_false] at hd
  rcases hd with rfl | rfl | rfl | rfl | rfl | rfl | rfl | rfl | rfl | rfl | rfl | rfl | rfl | rfl | rfl
  all_goals first
    | exact ⟨trivial, rfl⟩
    | exact ⟨⟨by simp, by simp⟩, by decide⟩
def every : List Nat := [97, 98, 99, 100, 101, 102, 103, 104, 105, 106, 107, 108, 109, 110, 111, 112, 113, 114, 115, 116, 117, 118, 119, 120, 121, 122, 45, 35, 60, 62]
theorem plain_k01 (ns : List Int) (hl : ns.length ≤ 63) : F_law_k01 [.o (.scr ns)] [] (fun y _ => y = .d (.bool true)) (fun _ _ => False) := by
  simp [F_law_k01, e_run, w_law_k01, sizeLine_eq]
  refine ⟨by omega, by omega, ?_⟩
  refine loopF_inv (fun ds r => (∀ d ∈ ds, ∃ j : Nat, d = .int j ∧ j ≤ 1000) ∧ ∃ sl st, r = ⟨some (.o (.scr ns)) :: sl, st⟩ ∧ ∃ y1 y2 y3 y4 : Option R, ∃ y5 y6 : Option D, sl = [y1, y2, y3, y4, y5.map R.d, y6.map R.d, none, none, none]) ?_ ?_ _ _ ⟨?_, _, _, rfl, none, none, none, none, none, none, rfl⟩
  · rintro d ds r K hK ⟨hds, sl, st, rfl, y1, y2, y3, y4, y5, y6, rfl⟩
    obtain ⟨j, rfl, hj⟩ := hds d (by simp)
    try simp
    refine r_law_pool hj fun b hb => ?_
    try simp
    refine loopF_inv (fun ds r => ∃ (c : Nat) (st1 : Sto) (y3 y4 : Option R) (y5 y6 : Option D), (∀ d ∈ ds, ∃ j : Int, d = .int j) ∧ c + 1000 * ds.length ≤ 100000 ∧ Dr st.length c (st ++ [some b]) st1 ∧ r = ⟨[some (.o (.scr ns)), some (.d (.int j)), some (.l st.length), y3, y4, y5.map R.d, y6.map R.d, none, none, none], st1⟩) ?_ ?_ _ _ ⟨0, _, y3, y4, y5, y6, ?_, ?_, Dr.start (b := b) (by simp) hb, rfl⟩
    · rintro d ds' r K2 hK2 ⟨c, st1, y3, y4, y5, y6, hds', hc, hd, rfl⟩
      obtain ⟨j', rfl⟩ := hds' d (by simp)
      simp only [List.length_cons] at hc
      try simp
      refine r_law_strokes (top := 60) hd (by omega) (by decide) fun st2 row hd2 hrow => ?_
      try simp [sizeLine_eq]
      refine r_law_bent hd2 (by omega) hrow fun st3 bent hd3 hgood hbl => ?_
      try simp [sizeLine_eq]
      refine ⟨by omega, ?_⟩
      refine loopF_inv (fun ds r => ∃ (y5 y6 : Option D), (∀ d ∈ ds, Good d) ∧ r = ⟨[some (.o (.scr ns)), some (.d (.int j)), some (.l st.length), some (.d (.int j')), some (.d (.str (S row))), y5.map R.d, y6.map R.d, none, none, none], st3⟩) ?_ ?_ _ _ ⟨y5, y6, ?_, rfl⟩
      · rintro d ds2 r K3 hK3 ⟨y5, y6, hg, rfl⟩
        rw [e_asg, e_put]
        exact body01 (hg d (by simp)) _ _ fun y6' => hK3 _ ⟨some d, some y6', fun e he => hg e (List.mem_cons_of_mem _ he), rfl⟩
      · rintro r ⟨y5, y6, _, rfl⟩
        exact hK2 _ ⟨c + 1000, st3, _, _, y5, y6, fun d hd => hds' d (List.mem_cons_of_mem _ hd), by omega, hd3.mono (by omega), rfl⟩
      · intro d hd'
        rcases List.mem_cons.mp hd' with rfl | hd'
        · exact hrow.gs.good (by decide)
        · exact hgood d hd'
    · rintro r ⟨c, st1, y3, y4, y5, y6, _, hc, hd, rfl⟩
      exact hK _ ⟨fun d hd => hds d (List.mem_cons_of_mem _ hd), _, _, rfl, _, _, _, _, y5, y6, rfl⟩
    · intro d hd
      obtain ⟨i, _, rfl⟩ := List.mem_map.mp hd
      exact ⟨_, rfl⟩
    · simp [intR]
  · rintro r ⟨_, sl, st, rfl, y1, y2, y3, y4, y5, y6, rfl⟩
    try simp [sizeLine_eq]
    rw [signs_S]
    have ev : (every.filter fun c => !isKeyB c) = [] := by decide
    refine lc1 (α := Nat) (l := every) sign (fun c => !isKeyB c) sign rfl (fun c _ K X hK => ?_) (fun c _ _ K X hK => by simpa using hK) (by simp [every, sizeLine_eq]) ?_
    · simp [sign_S]
      refine r_is_keys (row := [c]) (by simp) ?_
      try simp [g_isnotB]
      simpa [sign_S] using hK
    · rw [ev]
      try simp [sizeLine_eq]
      refine fit_nil.eq (k := fun b => _) (by decide) ?_
      try simp [sizeLine_eq]
      refine ⟨by decide, ?_⟩
      have eo : (others.filter fun d => isListD d) = [] := List.filter_eq_nil_iff.mpr fun d hd => by
        rw [(others_ok d hd).2]
        simp
      rcases y5 with _ | y5
      all_goals
        refine lc1 (α := D) (l := others) id (fun d => isListD d) id (by rw [List.map_id]; rfl) (fun d hd K X hK => ?_) (fun d _ _ K X hK => by simpa using hK) (by simp [others, sizeLine_eq]) ?_
        · try simp
          refine r_is_keys_any (others_ok d hd).1 ?_
          try simp
          rw [g_isnotB, (others_ok d hd).2]
          rw [(others_ok d hd).2] at hK
          simpa using hK
        · rw [eo]
          try simp [sizeLine_eq]
          refine fit_nil.eq (k := fun b => _) (by decide) ?_
          try simp
          refine r_is_keys (row := []) (by simp) ?_
          try simp
          rw [g_isB]
          simp
  · intro d hd
    obtain ⟨i, hi, rfl⟩ := List.mem_map.mp hd
    have := List.mem_range.mp hi
    exact ⟨i, by simp, by omega⟩
end
end Dl

/-! plain laws, part 5: rows of signs and bars, the states of pressing -/
namespace Dl
/-- the row of a list of stretches: a bar (124) between two -/
def rowOf : List (List Nat) → List Nat
  | [] => []
  | [s] => s
  | s :: t :: r => s ++ 124 :: rowOf (t :: r)
/-- what the law does with a bar: what stands left of it is taken away or moves behind it -/
def leftStep (mv : Bool) (found : List Nat) (sign : Nat) : List Nat :=
  if sign = 124 ∧ found ≠ [] ∧ found.getLast? ≠ some 124 then
    let f := found.dropLast
    let g := if f = [] ∨ f.getLast? ≠ some 124 then f ++ [124] else f
    if mv then g ++ found.getLast?.toList else g
  else if sign ≠ 124 ∨ found = [] ∨ found.getLast? ≠ some 124 then found ++ [sign] else found
def leftR (row : List Nat) (mv : Bool) : List Nat := row.foldl (leftStep mv) []
def typeR (row : List Nat) (k : Nat) : List Nat := row.flatMap fun c => if c = 124 then [k, 124] else [c]
def oneR (row : List Nat) (k : Nat) : List Nat :=
  if k = 45 ∨ k = 60 then leftR row (k == 60)
  else if k = 35 ∨ k = 62 then (leftR row.reverse (k == 62)).reverse
  else typeR row k
theorem rowOf_cons (s : List Nat) {r : List (List Nat)} (h : r ≠ []) : rowOf (s :: r) = s ++ 124 :: rowOf r := by
  cases r with
  | nil => exact absurd rfl h
  | cons t r => rfl
/-- letters are laid on as they are -/
theorem left_letters {mv : Bool} : ∀ {s : List Nat} {found : List Nat}, (∀ c ∈ s, c ≠ 124) → s.foldl (leftStep mv) found = found ++ s
  | [], found, _ => by simp
  | c :: s, found, h => by
    have hc : c ≠ 124 := h c (by simp)
    have e : leftStep mv found c = found ++ [c] := by simp [leftStep, hc]
    rw [List.foldl_cons, e, left_letters fun d hd => h d (List.mem_cons_of_mem _ hd)]
    simp
theorem typeR_letters {k : Nat} : ∀ {s : List Nat}, (∀ c ∈ s, c ≠ 124) → typeR s k = s
  | [], _ => rfl
  | c :: s, h => by
    have hc : c ≠ 124 := h c (by simp)
    have ih := typeR_letters (k := k) (s := s) fun d hd => h d (List.mem_cons_of_mem _ hd)
    unfold typeR at ih ⊢
    rw [List.flatMap_cons, ih, if_neg hc]
    rfl
/-- a letter typed at all bars -/
def typeS (k : Nat) : List (List Nat) → List (List Nat)
  | [] => []
  | [s] => [s]
  | s :: t :: r => (s ++ [k]) :: typeS k (t :: r)
theorem typeS_ne {k : Nat} {t : List Nat} {r : List (List Nat)} : typeS k (t :: r) ≠ [] := by
  cases r <;> simp [typeS]
theorem type_row {k : Nat} : ∀ {ss : List (List Nat)}, (∀ s ∈ ss, ∀ c ∈ s, c ≠ 124) → typeR (rowOf ss) k = rowOf (typeS k ss)
  | [], _ => rfl
  | [s], h => typeR_letters (h s (by simp))
  | s :: t :: r, h => by
    have ih := type_row (k := k) (ss := t :: r) fun s hs => h s (List.mem_cons_of_mem _ hs)
    have e1 : typeR (s ++ 124 :: rowOf (t :: r)) k = typeR s k ++ ([k, 124] ++ typeR (rowOf (t :: r)) k) := by
      unfold typeR
      rw [List.flatMap_append, List.flatMap_cons, if_pos rfl]
    show typeR (s ++ 124 :: rowOf (t :: r)) k = rowOf ((s ++ [k]) :: typeS k (t :: r))
    rw [e1, ih, typeR_letters (h s (by simp)), rowOf_cons _ typeS_ne]
    simp
/-- a key backwards at all bars but the first -/
def bsM : List (List Nat) → List (List Nat)
  | [] => []
  | [s] => [s]
  | s :: t :: r => if s.dropLast = [] then bsM (t :: r) else s.dropLast :: bsM (t :: r)
def bsS : List (List Nat) → List (List Nat)
  | [] => []
  | [s] => [s]
  | s :: t :: r => s.dropLast :: bsM (t :: r)
theorem bsM_ne : ∀ {t : List Nat} {r : List (List Nat)}, bsM (t :: r) ≠ []
  | t, [] => by simp [bsM]
  | t, u :: r => by
    unfold bsM
    split
    · exact bsM_ne
    · simp
/-- all stretches but the last are not empty -/
def MidOk : List (List Nat) → Prop
  | [] => True
  | [_] => True
  | s :: t :: r => s ≠ [] ∧ MidOk (t :: r)
theorem bar_step {F s : List Nat} (hs : s ≠ []) (hc : ∀ c ∈ s, c ≠ 124) : leftStep false (F ++ s) 124 = if F ++ s.dropLast = [] ∨ (F ++ s.dropLast).getLast? ≠ some 124 then F ++ s.dropLast ++ [124] else F ++ s.dropLast := by
  have h1 : F ++ s ≠ [] := by simp [hs]
  have h2 : (F ++ s).getLast? ≠ some 124 := by
    rw [List.getLast?_append, List.getLast?_eq_getLast hs]
    intro z
    exact hc _ (List.getLast_mem hs) (by simpa using z)
  have h3 : (F ++ s).dropLast = F ++ s.dropLast := List.dropLast_append_of_ne_nil hs
  unfold leftStep
  rw [if_pos ⟨rfl, h1, h2⟩, h3]
  simp
theorem bs_mid : ∀ {ss : List (List Nat)} {F : List Nat}, (∀ s ∈ ss, ∀ c ∈ s, c ≠ 124) → MidOk ss → F.getLast? = some 124 → ss ≠ [] → (rowOf ss).foldl (leftStep false) F = F ++ rowOf (bsM ss)
  | [], _, _, _, _, h => absurd rfl h
  | [s], F, h, _, _, _ => left_letters (h s (by simp))
  | s :: t :: r, F, h, hm, hF, _ => by
    have hs := h s (by simp)
    have hr : ∀ u ∈ t :: r, ∀ c ∈ u, c ≠ 124 := fun u hu => h u (List.mem_cons_of_mem _ hu)
    show (s ++ 124 :: rowOf (t :: r)).foldl (leftStep false) F = _
    rw [List.foldl_append, left_letters hs, List.foldl_cons, bar_step hm.1 hs]
    unfold bsM
    by_cases hd : s.dropLast = []
    · have hF2 : F ≠ [] := by
        intro z
        rw [z] at hF
        cases hF
      rw [hd, List.append_nil, if_neg (by simp [hF, hF2]), if_pos rfl]
      exact bs_mid hr hm.2 hF (by simp)
    · have h4 : (F ++ s.dropLast).getLast? ≠ some 124 := by
        rw [List.getLast?_append, List.getLast?_eq_getLast hd]
        intro z
        exact hs _ (List.dropLast_subset _ (List.getLast_mem hd)) (by simpa using z)
      rw [if_pos (.inr h4), if_neg hd, rowOf_cons _ bsM_ne, bs_mid hr hm.2 (by simp) (by simp)]
      simp
theorem bs_row {s t : List Nat} {r : List (List Nat)} (h : ∀ u ∈ s :: t :: r, ∀ c ∈ u, c ≠ 124) (hm : MidOk (t :: r)) : leftR (rowOf (s :: t :: r)) false = rowOf (bsS (s :: t :: r)) := by
  have hs := h s (by simp)
  have hr : ∀ u ∈ t :: r, ∀ c ∈ u, c ≠ 124 := fun u hu => h u (List.mem_cons_of_mem _ hu)
  show (s ++ 124 :: rowOf (t :: r)).foldl (leftStep false) [] = rowOf (s.dropLast :: bsM (t :: r))
  rw [List.foldl_append, left_letters hs, List.foldl_cons, rowOf_cons _ bsM_ne, List.nil_append]
  have e : leftStep false s 124 = s.dropLast ++ [124] := by
    by_cases hn : s = []
    · subst hn
      simp [leftStep]
    · have := bar_step (F := []) hn hs
      rw [List.nil_append, List.nil_append] at this
      rw [this]
      by_cases hd : s.dropLast = []
      · rw [if_pos (.inl hd)]
      · refine if_pos (.inr ?_)
        rw [List.getLast?_eq_getLast hd]
        intro z
        exact hs _ (List.dropLast_subset _ (List.getLast_mem hd)) (by simpa using z)
  rw [e, bs_mid hr hm (by simp) (by simp)]
  simp
/-- a move to the left: what was taken stands first in the next stretch -/
def mvM : List Nat → List (List Nat) → List (List Nat)
  | _, [] => []
  | p, [s] => [p ++ s]
  | p, s :: t :: r => if (p ++ s).dropLast = [] then mvM (p ++ s).getLast?.toList (t :: r) else (p ++ s).dropLast :: mvM (p ++ s).getLast?.toList (t :: r)
def mvS : List (List Nat) → List (List Nat)
  | [] => []
  | [s] => [s]
  | s :: t :: r => s.dropLast :: mvM s.getLast?.toList (t :: r)
theorem mvM_ne : ∀ {t : List Nat} {r : List (List Nat)} {p : List Nat}, mvM p (t :: r) ≠ []
  | t, [], p => by simp [mvM]
  | t, u :: r, p => by
    unfold mvM
    split
    · exact mvM_ne
    · simp
theorem bar_move {F s : List Nat} (hs : s ≠ []) (hc : ∀ c ∈ s, c ≠ 124) : leftStep true (F ++ s) 124 = (if F ++ s.dropLast = [] ∨ (F ++ s.dropLast).getLast? ≠ some 124 then F ++ s.dropLast ++ [124] else F ++ s.dropLast) ++ s.getLast?.toList := by
  have h1 : F ++ s ≠ [] := by simp [hs]
  have h2 : (F ++ s).getLast? = s.getLast? := by
    rw [List.getLast?_append, List.getLast?_eq_getLast hs]
    rfl
  have h2' : (F ++ s).getLast? ≠ some 124 := by
    rw [h2, List.getLast?_eq_getLast hs]
    intro z
    exact hc _ (List.getLast_mem hs) (by simpa using z)
  have h3 : (F ++ s).dropLast = F ++ s.dropLast := List.dropLast_append_of_ne_nil hs
  unfold leftStep
  rw [if_pos ⟨rfl, h1, h2'⟩, h3, h2]
  simp
theorem mv_mid : ∀ {ss : List (List Nat)} {F p : List Nat}, (∀ s ∈ ss, ∀ c ∈ s, c ≠ 124) → (∀ c ∈ p, c ≠ 124) → MidOk ss → F.getLast? = some 124 → ss ≠ [] → (rowOf ss).foldl (leftStep true) (F ++ p) = F ++ rowOf (mvM p ss)
  | [], _, _, _, _, _, _, h => absurd rfl h
  | [s], F, p, h, hp, _, _, _ => by
    show s.foldl (leftStep true) (F ++ p) = F ++ (p ++ s)
    rw [left_letters (h s (by simp)), List.append_assoc]
  | s :: t :: r, F, p, h, hp, hm, hF, _ => by
    have hs := h s (by simp)
    have hr : ∀ u ∈ t :: r, ∀ c ∈ u, c ≠ 124 := fun u hu => h u (List.mem_cons_of_mem _ hu)
    have hps : p ++ s ≠ [] := by simp [hm.1]
    have hpc : ∀ c ∈ p ++ s, c ≠ 124 := fun c hc => (List.mem_append.mp hc).elim (hp c) (hs c)
    have hq : ∀ c ∈ (p ++ s).getLast?.toList, c ≠ 124 := fun c hc => by
      rw [List.getLast?_eq_getLast hps] at hc
      simp at hc
      rw [hc]
      exact hpc _ (List.getLast_mem hps)
    show (s ++ 124 :: rowOf (t :: r)).foldl (leftStep true) (F ++ p) = _
    rw [List.foldl_append, left_letters hs, List.foldl_cons, List.append_assoc, bar_move hps hpc]
    unfold mvM
    by_cases hd : (p ++ s).dropLast = []
    · have hF2 : F ≠ [] := by
        intro z
        rw [z] at hF
        cases hF
      rw [hd, List.append_nil, if_neg (by simp [hF, hF2]), if_pos rfl]
      exact mv_mid hr hq hm.2 hF (by simp)
    · have h4 : (F ++ (p ++ s).dropLast).getLast? ≠ some 124 := by
        rw [List.getLast?_append, List.getLast?_eq_getLast hd]
        intro z
        exact hpc _ (List.dropLast_subset _ (List.getLast_mem hd)) (by simpa using z)
      rw [if_pos (.inr h4), if_neg hd, rowOf_cons _ mvM_ne, mv_mid hr hq hm.2 (by simp) (by simp)]
      simp
theorem mv_row {s t : List Nat} {r : List (List Nat)} (h : ∀ u ∈ s :: t :: r, ∀ c ∈ u, c ≠ 124) (hm : MidOk (t :: r)) : leftR (rowOf (s :: t :: r)) true = rowOf (mvS (s :: t :: r)) := by
  have hs := h s (by simp)
  have hr : ∀ u ∈ t :: r, ∀ c ∈ u, c ≠ 124 := fun u hu => h u (List.mem_cons_of_mem _ hu)
  have hq : ∀ c ∈ s.getLast?.toList, c ≠ 124 := fun c hc => by
    by_cases hn : s = []
    · subst hn
      simp at hc
    · rw [List.getLast?_eq_getLast hn] at hc
      simp at hc
      rw [hc]
      exact hs _ (List.getLast_mem hn)
  show (s ++ 124 :: rowOf (t :: r)).foldl (leftStep true) [] = rowOf (s.dropLast :: mvM s.getLast?.toList (t :: r))
  rw [List.foldl_append, left_letters hs, List.foldl_cons, rowOf_cons _ mvM_ne, List.nil_append]
  have e : leftStep true s 124 = (s.dropLast ++ [124]) ++ s.getLast?.toList := by
    by_cases hn : s = []
    · subst hn
      simp [leftStep]
    · have := bar_move (F := []) hn hs
      rw [List.nil_append, List.nil_append] at this
      rw [this]
      congr 1
      by_cases hd : s.dropLast = []
      · rw [if_pos (.inl hd)]
      · refine if_pos (.inr ?_)
        rw [List.getLast?_eq_getLast hd]
        intro z
        exact hs _ (List.dropLast_subset _ (List.getLast_mem hd)) (by simpa using z)
  rw [e, mv_mid hr hq hm (by simp) (by simp)]
  simp
/-- the row backwards -/
theorem row_rev : ∀ ss : List (List Nat), (rowOf ss).reverse = rowOf ((ss.map List.reverse).reverse) := by
  have app : ∀ (ss : List (List Nat)) (t : List Nat), ss ≠ [] → rowOf (ss ++ [t]) = rowOf ss ++ 124 :: t := by
    intro ss t
    induction ss with
    | nil => intro h; exact absurd rfl h
    | cons s r ih =>
      intro _
      cases r with
      | nil => rfl
      | cons u r =>
        have e1 : rowOf (s :: u :: r) = s ++ 124 :: rowOf (u :: r) := rfl
        rw [List.cons_append, rowOf_cons _ (by simp), ih (by simp), e1]
        simp
  intro ss
  induction ss with
  | nil => rfl
  | cons s r ih =>
    cases r with
    | nil => simp [rowOf]
    | cons u r =>
      rw [rowOf_cons _ (by simp), List.map_cons, List.reverse_cons, app _ _ (by simp), ← ih]
      simp
end Dl

/-! plain laws, part 6: states of pressing -/
namespace Dl
/-- the places between the stretches -/
def sums (a : Nat) : List (List Nat) → List Nat
  | [] => []
  | [_] => []
  | s :: t :: r => (a + s.length) :: sums (a + s.length) (t :: r)
/-- without copies of the one before -/
def dedupe : List Nat → List Nat
  | [] => []
  | [a] => [a]
  | a :: b :: r => if a = b then dedupe (b :: r) else a :: dedupe (b :: r)
def normM : List (List Nat) → List (List Nat)
  | [] => []
  | [s] => [s]
  | s :: t :: r => if s = [] then normM (t :: r) else s :: normM (t :: r)
def norm : List (List Nat) → List (List Nat)
  | [] => []
  | [s] => [s]
  | s :: t :: r => s :: normM (t :: r)
theorem normM_ne : ∀ {t : List Nat} {r : List (List Nat)}, normM (t :: r) ≠ []
  | t, [] => by simp [normM]
  | t, u :: r => by
    unfold normM
    split
    · exact normM_ne
    · simp
theorem normM_flat : ∀ ss : List (List Nat), (normM ss).flatten = ss.flatten
  | [] => rfl
  | [s] => rfl
  | s :: t :: r => by
    unfold normM
    split
    · rename_i h
      rw [normM_flat (t :: r), h]
      rfl
    · rw [List.flatten_cons, normM_flat (t :: r)]
      rfl
theorem norm_flat : ∀ ss : List (List Nat), (norm ss).flatten = ss.flatten
  | [] => rfl
  | [s] => rfl
  | s :: t :: r => by
    show (s :: normM (t :: r)).flatten = _
    rw [List.flatten_cons, normM_flat (t :: r)]
    rfl
theorem sums_cons (a : Nat) (s : List Nat) {r : List (List Nat)} (h : r ≠ []) : sums a (s :: r) = (a + s.length) :: sums (a + s.length) r := by
  cases r with
  | nil => exact absurd rfl h
  | cons t r => rfl
theorem dedupe_sums : ∀ (a : Nat) (ss : List (List Nat)), dedupe (a :: sums a ss) = a :: sums a (normM ss)
  | a, [] => rfl
  | a, [s] => rfl
  | a, s :: t :: r => by
    show dedupe (a :: (a + s.length) :: sums (a + s.length) (t :: r)) = _
    unfold dedupe normM
    by_cases h : s = []
    · subst h
      simp
      have := dedupe_sums a (t :: r)
      simpa using this
    · have hl : 0 < s.length := List.length_pos_iff.mpr h
      rw [if_neg (by omega), if_neg h, dedupe_sums (a + s.length) (t :: r), sums_cons a s normM_ne]
theorem dedupe_norm (s t : List Nat) (r : List (List Nat)) : dedupe (sums 0 (s :: t :: r)) = sums 0 (norm (s :: t :: r)) := by
  show dedupe ((0 + s.length) :: sums (0 + s.length) (t :: r)) = sums 0 (s :: normM (t :: r))
  rw [dedupe_sums, sums_cons 0 s normM_ne]
/-- backspace and delete by stretches -/
theorem bs_norm : ∀ (s t : List Nat) (r : List (List Nat)), bsM (t :: r) = normM (((t :: r).dropLast.map List.dropLast) ++ [(t :: r).getLast (by simp)])
  | s, t, [] => by simp [bsM, normM]
  | s, t, u :: r => by
    have ih := bs_norm s u r
    rw [List.dropLast_cons_of_ne_nil (by simp), List.map_cons, List.cons_append, List.getLast_cons (by simp)]
    unfold bsM
    rw [ih]
    have hne : (((u :: r).dropLast.map List.dropLast) ++ [(u :: r).getLast (by simp)]) ≠ [] := by simp
    generalize hg : ((u :: r).dropLast.map List.dropLast) ++ [(u :: r).getLast (by simp)] = g at hne ⊢
    cases g with
    | nil => exact absurd rfl hne
    | cons v g => simp [normM]
end Dl

/-! plain laws, part 7: pressing, the program's own defs -/
namespace Dl
open PySem
open PySem.Spec
open PyProof.Rows
open L2
section
variable {st st0 : Sto} {k : KS} {x : XS0} {n m : Nat}
def natsD (l : List Nat) : List D := l.map fun (i : Nat) => .int i
theorem fit_nats {l : List Nat} (hn : l.length ≤ 1000) (hb : ∀ i ∈ l, i ≤ 1000000) : Fit 1 (1000 * 201) (.list (natsD l)) := fit_list (h := 0) (w := 200) (n := 1000) (fun d hd => by
  obtain ⟨i, hi, rfl⟩ := List.mem_map.mp hd
  have := hb i hi
  exact fit_int (by omega)) (by simpa [natsD] using hn)
def dstep (acc : List Nat) (p : Nat) : List Nat := if acc = [] ∨ acc.getLast? ≠ some p then acc ++ [p] else acc
theorem r_places {l : List Nat} (hn : l.length ≤ 1000) (hb : ∀ i ∈ l, i ≤ 1000000) (h : k (.d (.tuple (natsD (l.foldl dstep [])))) st) : F_places_without_copies [.d (.list (natsD l))] st k x := by
  simp [F_places_without_copies, e_run, w_places_without_copies, sizeLine_eq]
  refine loopF_fold (α := Nat) (σ := List Nat) (fun (i : Nat) => .int i) dstep (fun l acc => acc.length + l.length ≤ 1000 ∧ (∀ i ∈ acc, i ≤ 1000000) ∧ ∀ i ∈ l, i ≤ 1000000)
    (fun acc r => ∃ y2 : Option D, r = ⟨[some (.d (.list (natsD l))), some (.l st.length), y2.map R.d], st ++ [some (natsD acc)]⟩) ?_ ?_ l [] _ ⟨by simpa using hn, by simp, hb⟩ ⟨none, rfl⟩ ?_
  · rintro p l2 acc r K ⟨h1, h2, h3⟩ ⟨y2, rfl⟩ hK
    simp only [List.length_cons] at h1
    simp [sizeLine_eq]
    have hf := fit_nats (l := acc) (by omega) h2
    by_cases ha : acc = []
    · subst ha
      refine g_eqNil hf (by decide) ?_
      simp [natsD, uAppend, sizeLine_eq]
      exact hK _ ⟨some (.int p), by simp [dstep, natsD]⟩
    · refine g_eqNil hf (by decide) ?_
      have e1 : (natsD acc).isEmpty = false := by
        cases acc with
        | nil => exact absurd rfl ha
        | cons a b => rfl
      have e2 : (natsD acc).getLast? = some (.int (acc.getLast ha : Nat)) := by
        unfold natsD
        rw [List.getLast?_map, List.getLast?_eq_getLast ha]
        rfl
      have e3 : (natsD acc).length = acc.length := by simp [natsD]
      rw [e1]
      simp [g_ixL, e2, g_ne]
      by_cases hp : acc.getLast ha = p
      · have ed : dstep acc p = acc := by simp [dstep, ha, List.getLast?_eq_getLast ha, hp]
        rw [ed] at hK
        have := hK _ ⟨some (.int p), rfl⟩
        simpa [hp] using this
      · have ed : dstep acc p = acc ++ [p] := by simp [dstep, ha, List.getLast?_eq_getLast ha, hp]
        rw [ed] at hK
        have := hK _ ⟨some (.int p), rfl⟩
        have hp' : ¬ ((acc.getLast ha : Nat) : Int) = (p : Int) := by omega
        simp [hp', uAppend, sizeLine_eq, e3]
        refine ⟨by omega, ?_⟩
        simpa [natsD] using this
  · rintro p l2 acc ⟨h1, h2, h3⟩
    simp only [List.length_cons] at h1
    have hl : (dstep acc p).length ≤ acc.length + 1 := by
      unfold dstep
      split <;> simp
    refine ⟨by omega, fun i hi => ?_, fun i hi => h3 i (List.mem_cons_of_mem _ hi)⟩
    unfold dstep at hi
    split at hi
    · rcases List.mem_append.mp hi with hi | hi
      · exact h2 i hi
      · rw [List.mem_singleton.mp hi]
        exact h3 p (by simp)
    · exact h2 i hi
  · rintro r ⟨y2, rfl⟩
    simp
    exact h
end
end Dl

/-! plain laws, part 8: the states of pressing, pure -/
namespace Dl
def revS (ss : List (List Nat)) : List (List Nat) := (ss.map List.reverse).reverse
def stepS (ss : List (List Nat)) (k : Nat) : List (List Nat) :=
  if k = 45 then bsS ss else if k = 60 then mvS ss else if k = 35 then revS (bsS (revS ss)) else if k = 62 then revS (mvS (revS ss)) else typeS k ss
def neL (l : List Nat) : Bool := !l.isEmpty
theorem neL_iff {l : List Nat} : neL l = true ↔ l ≠ [] := by cases l <;> simp [neL]
theorem two_form {ss : List (List Nat)} (h : 2 ≤ ss.length) : ∃ s m t, ss = s :: (m ++ [t]) := by
  match ss, h with
  | s :: u :: r, _ => exact ⟨s, (u :: r).dropLast, (u :: r).getLast (by simp), by rw [List.dropLast_concat_getLast]⟩
theorem normM_form (m : List (List Nat)) (t : List Nat) : normM (m ++ [t]) = m.filter neL ++ [t] := by
  induction m with
  | nil => rfl
  | cons u m ih =>
    have e : u :: m ++ [t] = u :: (m ++ [t]) := rfl
    cases h : m ++ [t] with
    | nil => simp at h
    | cons v r =>
      rw [e, h]
      unfold normM
      rw [← h, ih]
      by_cases hu : u = []
      · simp [hu, neL]
      · have : neL u = true := neL_iff.mpr hu
        simp [hu, this]
theorem norm_form (s : List Nat) (m : List (List Nat)) (t : List Nat) : norm (s :: (m ++ [t])) = s :: (m.filter neL ++ [t]) := by
  cases h : m ++ [t] with
  | nil => simp at h
  | cons v r =>
    show s :: normM (v :: r) = _
    rw [← h, normM_form]
theorem bsM_form (m : List (List Nat)) (t : List Nat) : bsM (m ++ [t]) = (m.map List.dropLast).filter neL ++ [t] := by
  induction m with
  | nil => rfl
  | cons u m ih =>
    have e : u :: m ++ [t] = u :: (m ++ [t]) := rfl
    cases h : m ++ [t] with
    | nil => simp at h
    | cons v r =>
      rw [e, h]
      unfold bsM
      rw [← h, ih]
      by_cases hu : u.dropLast = []
      · simp [hu, neL]
      · have : neL u.dropLast = true := neL_iff.mpr hu
        rw [if_neg hu, List.map_cons, List.filter_cons_of_pos this]
        rfl
theorem bsS_form (s : List Nat) (m : List (List Nat)) (t : List Nat) : bsS (s :: (m ++ [t])) = s.dropLast :: ((m.map List.dropLast).filter neL ++ [t]) := by
  cases h : m ++ [t] with
  | nil => simp at h
  | cons v r =>
    show s.dropLast :: bsM (v :: r) = _
    rw [← h, bsM_form]
theorem typeS_form (k : Nat) (m : List (List Nat)) (t : List Nat) : typeS k (m ++ [t]) = m.map (· ++ [k]) ++ [t] := by
  induction m with
  | nil => rfl
  | cons u m ih =>
    have e : u :: m ++ [t] = u :: (m ++ [t]) := rfl
    cases h : m ++ [t] with
    | nil => simp at h
    | cons v r =>
      rw [e, h]
      unfold typeS
      rw [← h, ih]
      rfl
theorem revS_form (s : List Nat) (m : List (List Nat)) (t : List Nat) : revS (s :: (m ++ [t])) = t.reverse :: (revS m ++ [s.reverse]) := by
  simp [revS]
theorem revS_revS (ss : List (List Nat)) : revS (revS ss) = ss := by
  simp [revS, Function.comp_def]
theorem rev_dl (l : List Nat) : l.reverse.dropLast.reverse = l.drop 1 := by
  rw [List.dropLast_reverse, List.reverse_reverse]
  cases l <;> rfl
theorem del_form (s : List Nat) (m : List (List Nat)) (t : List Nat) : revS (bsS (revS (s :: (m ++ [t])))) = s :: ((m.map (List.drop 1)).filter neL ++ [t.drop 1]) := by
  rw [revS_form, bsS_form, revS_form, List.reverse_reverse, rev_dl]
  congr 2
  unfold revS
  rw [List.map_reverse, List.filter_reverse, List.map_reverse, List.reverse_reverse]
  induction m with
  | nil => rfl
  | cons u m ih =>
    simp only [List.map_cons]
    have hh := rev_dl u
    by_cases hu : u.drop 1 = []
    · have h1 : u.reverse.dropLast = [] := by
        have : u.reverse.dropLast.reverse = [] := by rw [hh, hu]
        simpa using this
      have h2 : neL (u.drop 1) = false := by rw [hu]; rfl
      have h3 : neL u.reverse.dropLast = false := by rw [h1]; rfl
      rw [List.filter_cons_of_neg (by rw [h3]; simp), List.filter_cons_of_neg (by rw [h2]; simp), ih]
    · have h2 : neL (u.drop 1) = true := neL_iff.mpr hu
      have h3 : neL u.reverse.dropLast = true := neL_iff.mpr fun z => hu (by rw [← hh, z]; rfl)
      rw [List.filter_cons_of_pos h3, List.filter_cons_of_pos h2, List.map_cons, ih, hh]
theorem midOk_form (m : List (List Nat)) (t : List Nat) : MidOk (m ++ [t]) ↔ ∀ u ∈ m, u ≠ [] := by
  induction m with
  | nil => simp [MidOk]
  | cons u m ih =>
    have e : u :: m ++ [t] = u :: (m ++ [t]) := rfl
    cases h : m ++ [t] with
    | nil => simp at h
    | cons v r =>
      rw [e, h]
      unfold MidOk
      rw [← h, ih]
      simp
/-- a state: two stretches or more, the middle ones not empty -/
def SOk (ss : List (List Nat)) : Prop := ∃ s m t, ss = s :: (m ++ [t]) ∧ ∀ u ∈ m, u ≠ []
theorem SOk.rev {ss : List (List Nat)} (h : SOk ss) : SOk (revS ss) := by
  obtain ⟨s, m, t, rfl, hm⟩ := h
  refine ⟨t.reverse, revS m, s.reverse, revS_form s m t, fun u hu => ?_⟩
  simp [revS] at hu
  obtain ⟨v, hv, rfl⟩ := hu
  simpa using hm v hv
theorem mvM_len : ∀ {ss : List (List Nat)} {p : List Nat}, (mvM p ss).length ≤ ss.length
  | [], p => by simp [mvM]
  | [s], p => by simp [mvM]
  | s :: t :: r, p => by
    unfold mvM
    have h1 := mvM_len (ss := t :: r) (p := (p ++ s).getLast?.toList)
    split
    · simp only [List.length_cons] at h1 ⊢
      omega
    · simp only [List.length_cons] at h1 ⊢
      omega
theorem last_split (l : List Nat) : l.dropLast ++ l.getLast?.toList = l := by
  cases h : l with
  | nil => rfl
  | cons a r =>
    rw [← h, List.getLast?_eq_getLast (by rw [h]; simp)]
    exact List.dropLast_concat_getLast _
theorem mvM_flat : ∀ {ss : List (List Nat)} {p : List Nat}, ss ≠ [] → (mvM p ss).flatten = p ++ ss.flatten
  | [], p, h => absurd rfl h
  | [s], p, _ => by simp [mvM]
  | s :: t :: r, p, _ => by
    unfold mvM
    have h1 := mvM_flat (ss := t :: r) (p := (p ++ s).getLast?.toList) (by simp)
    have h2 := last_split (p ++ s)
    split
    · rename_i hd
      rw [h1, List.flatten_cons (l := s), ← List.append_assoc p s]
      rw [hd, List.nil_append] at h2
      rw [h2]
    · rw [List.flatten_cons, h1, ← List.append_assoc, h2, List.flatten_cons (l := s), List.append_assoc]
theorem mvM_form : ∀ {ss : List (List Nat)} {p : List Nat}, ss ≠ [] → ∃ m t, mvM p ss = m ++ [t] ∧ ∀ u ∈ m, u ≠ []
  | [], p, h => absurd rfl h
  | [s], p, _ => ⟨[], p ++ s, rfl, by simp⟩
  | s :: t :: r, p, _ => by
    obtain ⟨m, u, e, hm⟩ := mvM_form (ss := t :: r) (p := (p ++ s).getLast?.toList) (by simp)
    unfold mvM
    split
    · exact ⟨m, u, e, hm⟩
    · rename_i hd
      refine ⟨(p ++ s).dropLast :: m, u, by rw [e]; rfl, fun v hv => ?_⟩
      rcases List.mem_cons.mp hv with rfl | hv
      · exact hd
      · exact hm v hv
theorem mvS_cons (s : List Nat) (m : List (List Nat)) (t : List Nat) : mvS (s :: (m ++ [t])) = s.dropLast :: mvM s.getLast?.toList (m ++ [t]) := by
  cases h : m ++ [t] with
  | nil => simp at h
  | cons v r => rfl
theorem SOk.mv {ss : List (List Nat)} (h : SOk ss) : SOk (mvS ss) ∧ (mvS ss).flatten = ss.flatten ∧ (mvS ss).length ≤ ss.length := by
  obtain ⟨s, m, t, rfl, hm⟩ := h
  rw [mvS_cons]
  obtain ⟨m', t', e, hm'⟩ := mvM_form (ss := m ++ [t]) (p := s.getLast?.toList) (by simp)
  have hl := mvM_len (ss := m ++ [t]) (p := s.getLast?.toList)
  refine ⟨⟨s.dropLast, m', t', by rw [e], hm'⟩, ?_, ?_⟩
  · rw [List.flatten_cons, mvM_flat (by simp), ← List.append_assoc, last_split, List.flatten_cons]
  · simp only [List.length_cons]
    omega
theorem filt_ne (m : List (List Nat)) : ∀ u ∈ m.filter neL, u ≠ [] := fun u hu => neL_iff.mp (List.mem_filter.mp hu).2
theorem SOk.norm {s : List Nat} {m : List (List Nat)} {t : List Nat} : SOk (s :: (m.filter neL ++ [t])) := ⟨s, _, t, rfl, filt_ne m⟩
/-- rows -/
theorem one_row {ss : List (List Nat)} (h : SOk ss) (hc : ∀ c ∈ ss.flatten, c ≠ 124) {k : Nat} : oneR (rowOf ss) k = rowOf (stepS ss k) := by
  have hs : ∀ u ∈ ss, ∀ c ∈ u, c ≠ 124 := fun u hu c hcu => hc c (List.mem_flatten.mpr ⟨u, hu, hcu⟩)
  have hrs : ∀ u ∈ revS ss, ∀ c ∈ u, c ≠ 124 := fun u hu c hcu => by
    simp [revS] at hu
    obtain ⟨v, hv, rfl⟩ := hu
    exact hs v hv c (by simpa using hcu)
  have bs : ∀ {ss : List (List Nat)}, SOk ss → (∀ u ∈ ss, ∀ c ∈ u, c ≠ 124) → leftR (rowOf ss) false = rowOf (bsS ss) ∧ leftR (rowOf ss) true = rowOf (mvS ss) := by
    rintro ss ⟨s, m, t, rfl, hm⟩ hs
    have h2 := (midOk_form m t).mpr hm
    cases h : m ++ [t] with
    | nil => simp at h
    | cons v r =>
      rw [h] at h2 hs
      exact ⟨bs_row hs h2, mv_row hs h2⟩
  have hb := bs h hs
  have hr := bs h.rev hrs
  have er : (rowOf ss).reverse = rowOf (revS ss) := row_rev ss
  have er2 : ∀ tt, (rowOf tt).reverse = rowOf (revS tt) := row_rev
  unfold oneR stepS
  by_cases h45 : k = 45
  · subst h45
    simp [hb.1]
  · by_cases h60 : k = 60
    · subst h60
      simp [hb.2]
    · by_cases h35 : k = 35
      · subst h35
        simp [er, hr.1, er2]
      · by_cases h62 : k = 62
        · subst h62
          simp [er, hr.2, er2]
        · simp [h45, h60, h35, h62]
          exact type_row hs
/-- all letters -/
def LtOk (ss : List (List Nat)) : Prop := ∀ c ∈ ss.flatten, c ∈ low ++ upp
end Dl

/-! plain laws, part 8b: places -/
namespace Dl
theorem dstep_dedupe : ∀ (l : List Nat) (acc : List Nat) (a : Nat), l.foldl dstep (acc ++ [a]) = acc ++ dedupe (a :: l)
  | [], acc, a => by simp [dedupe]
  | b :: l, acc, a => by
    rw [List.foldl_cons]
    unfold dedupe
    by_cases h : a = b
    · subst h
      have e : dstep (acc ++ [a]) a = acc ++ [a] := by simp [dstep]
      rw [e, dstep_dedupe l acc a, if_pos rfl]
    · have e : dstep (acc ++ [a]) b = acc ++ [a] ++ [b] := by simp [dstep, h]
      rw [e, dstep_dedupe l (acc ++ [a]) b, if_neg h]
      simp
theorem foldl_dedupe (l : List Nat) : l.foldl dstep [] = dedupe l := by
  cases l with
  | nil => rfl
  | cons a l =>
    have e : dstep [] a = [] ++ [a] := by simp [dstep]
    rw [List.foldl_cons, e, dstep_dedupe, List.nil_append]
theorem dedupe_len : ∀ l : List Nat, (dedupe l).length ≤ l.length
  | [] => by simp [dedupe]
  | [a] => by simp [dedupe]
  | a :: b :: l => by
    unfold dedupe
    have := dedupe_len (b :: l)
    split <;> (simp only [List.length_cons] at this ⊢; omega)
/-- strictly ascending within bounds -/
def Asc (a b : Nat) : List Nat → Prop
  | [] => True
  | c :: cs => a ≤ c ∧ c ≤ b ∧ Asc (c + 1) b cs
theorem Asc.mono {a a' b : Nat} : ∀ {cs : List Nat}, Asc a b cs → a' ≤ a → Asc a' b cs
  | [], _, _ => trivial
  | c :: cs, h, h2 => ⟨Nat.le_trans h2 h.1, h.2⟩
theorem Asc.le {a b : Nat} : ∀ {cs : List Nat}, Asc a b cs → ∀ c ∈ cs, a ≤ c ∧ c ≤ b
  | [], _, c, h => by cases h
  | d :: cs, h, c, hc => by
    rcases List.mem_cons.mp hc with rfl | hc
    · exact ⟨h.1, h.2.1⟩
    · have := Asc.le h.2.2 c hc
      have := h.1
      exact ⟨by omega, by omega⟩
theorem sums_mid : ∀ (r : List (List Nat)) (a : Nat), MidOk r → Asc (a + 1) (a + r.flatten.length) (sums a r)
  | [], a, _ => trivial
  | [t], a, _ => trivial
  | t :: u :: r, a, h => by
    have ih := sums_mid (u :: r) (a + t.length) h.2
    have hl : 0 < t.length := List.length_pos_iff.mpr h.1
    have e : a + (t :: u :: r).flatten.length = a + t.length + (u :: r).flatten.length := by
      rw [List.flatten_cons, List.length_append]
      omega
    show a + 1 ≤ a + t.length ∧ a + t.length ≤ a + (t :: u :: r).flatten.length ∧ Asc (a + t.length + 1) (a + (t :: u :: r).flatten.length) (sums (a + t.length) (u :: r))
    rw [e]
    exact ⟨by omega, by omega, ih⟩
theorem SOk.cons {ss : List (List Nat)} (h : SOk ss) : ∃ s t r, ss = s :: t :: r ∧ MidOk (t :: r) := by
  obtain ⟨s, m, t, rfl, hm⟩ := h
  have h2 := (midOk_form m t).mpr hm
  cases h : m ++ [t] with
  | nil => simp at h
  | cons v r =>
    rw [h] at h2
    exact ⟨s, v, r, rfl, h2⟩
theorem SOk.mk' {s t : List Nat} {r : List (List Nat)} (h : MidOk (t :: r)) : SOk (s :: t :: r) := by
  have e : t :: r = (t :: r).dropLast ++ [(t :: r).getLast (by simp)] := by rw [List.dropLast_concat_getLast]
  rw [e] at h ⊢
  exact ⟨s, _, _, rfl, (midOk_form _ _).mp h⟩
theorem SOk.asc {ss : List (List Nat)} (h : SOk ss) : Asc 0 ss.flatten.length (sums 0 ss) := by
  obtain ⟨s, t, r, rfl, hm⟩ := h.cons
  have := sums_mid (t :: r) s.length hm
  show 0 ≤ 0 + s.length ∧ 0 + s.length ≤ (s :: t :: r).flatten.length ∧ Asc (0 + s.length + 1) (s :: t :: r).flatten.length (sums (0 + s.length) (t :: r))
  rw [List.flatten_cons, List.length_append, Nat.zero_add]
  exact ⟨by omega, by omega, this⟩
theorem SOk.ne {ss : List (List Nat)} (h : SOk ss) : sums 0 ss ≠ [] := by
  obtain ⟨s, t, r, rfl, hm⟩ := h.cons
  simp [sums]
theorem sums_len : ∀ (ss : List (List Nat)) (a : Nat), (sums a ss).length = ss.length - 1
  | [], a => rfl
  | [s], a => rfl
  | s :: t :: r, a => by
    have := sums_len (t :: r) (a + s.length)
    show (sums (a + s.length) (t :: r)).length + 1 = _
    rw [this]
    simp
theorem sums_shift : ∀ (ss : List (List Nat)) (a b : Nat), sums (a + b) ss = (sums b ss).map (a + ·)
  | [], a, b => rfl
  | [s], a, b => rfl
  | s :: t :: r, a, b => by
    show (a + b + s.length) :: sums (a + b + s.length) (t :: r) = (a + (b + s.length)) :: (sums (b + s.length) (t :: r)).map (a + ·)
    rw [Nat.add_assoc, sums_shift (t :: r) a (b + s.length)]
theorem sums_snoc : ∀ (L : List (List Nat)) (t : List Nat) (a : Nat), L ≠ [] → sums a (L ++ [t]) = sums a L ++ [a + L.flatten.length]
  | [], t, a, h => absurd rfl h
  | [s], t, a, _ => by simp [sums]
  | s :: u :: r, t, a, _ => by
    have ih := sums_snoc (u :: r) t (a + s.length) (by simp)
    show (a + s.length) :: sums (a + s.length) ((u :: r) ++ [t]) = (a + s.length) :: sums (a + s.length) (u :: r) ++ _
    rw [ih, List.flatten_cons (l := s), List.length_append, Nat.add_assoc]
    rfl
theorem revS_flat (ss : List (List Nat)) : (revS ss).flatten.length = ss.flatten.length := by
  induction ss with
  | nil => rfl
  | cons s r ih =>
    have e : revS (s :: r) = revS r ++ [s.reverse] := by simp [revS]
    rw [e]
    simp only [List.flatten_append, List.length_append, ih, List.flatten_cons]
    simp
    omega
theorem sums_rev : ∀ (ss : List (List Nat)), sums 0 (revS ss) = ((sums 0 ss).map (ss.flatten.length - ·)).reverse
  | [] => rfl
  | [s] => rfl
  | s :: t :: r => by
    have ih := sums_rev (t :: r)
    have e : revS (s :: t :: r) = revS (t :: r) ++ [s.reverse] := by simp [revS]
    have e2 : sums 0 (s :: t :: r) = (0 + s.length) :: sums (0 + s.length) (t :: r) := rfl
    have e3 : sums (0 + s.length) (t :: r) = (sums 0 (t :: r)).map (s.length + ·) := by
      rw [Nat.zero_add]
      exact sums_shift (t :: r) s.length 0
    rw [e, sums_snoc _ _ _ (by simp [revS]), ih, revS_flat, e2, e3, List.map_cons, List.map_map, List.reverse_cons, List.flatten_cons (l := s), List.length_append]
    congr 1
    · congr 1
      refine List.map_congr_left fun c _ => ?_
      show _ = s.length + (t :: r).flatten.length - (s.length + c)
      omega
    · congr 1
      omega
theorem dedupe_snoc (l : List Nat) (a : Nat) : dedupe (l ++ [a]) = dstep (dedupe l) a := by
  rw [← foldl_dedupe, ← foldl_dedupe, List.foldl_append]
  rfl
theorem dedupe_head (a : Nat) (l : List Nat) : (dedupe (a :: l)).head? = some a := by
  induction l generalizing a with
  | nil => rfl
  | cons b l ih =>
    unfold dedupe
    split
    · rename_i h
      rw [ih, h]
    · rfl
theorem dedupe_rev : ∀ l : List Nat, dedupe l.reverse = (dedupe l).reverse
  | [] => rfl
  | [a] => rfl
  | a :: b :: l => by
    have ih := dedupe_rev (b :: l)
    rw [List.reverse_cons, dedupe_snoc, ih]
    have h0 : (dedupe (b :: l)).reverse ≠ [] := by
      intro z
      have h1 := dedupe_head b l
      have : dedupe (b :: l) = [] := by simpa using z
      rw [this] at h1
      cases h1
    have h1 : (dedupe (b :: l)).reverse.getLast? = some b := by
      rw [List.getLast?_reverse, dedupe_head]
    have e : dedupe (a :: b :: l) = if a = b then dedupe (b :: l) else a :: dedupe (b :: l) := rfl
    rw [e]
    unfold dstep
    rw [h1]
    by_cases h : a = b
    · subst h
      rw [if_neg (by simp [h0]), if_pos rfl]
    · rw [if_pos (.inr (by simp; exact fun z => h z.symm)), if_neg h, List.reverse_cons]
theorem dedupe_map {f : Nat → Nat} : ∀ {l : List Nat}, (∀ a ∈ l, ∀ b ∈ l, f a = f b → a = b) → dedupe (l.map f) = (dedupe l).map f
  | [], _ => rfl
  | [a], _ => rfl
  | a :: b :: l, h => by
    have ih := dedupe_map (f := f) (l := b :: l) fun x hx y hy => h x (List.mem_cons_of_mem _ hx) y (List.mem_cons_of_mem _ hy)
    rw [List.map_cons] at ih ⊢
    rw [List.map_cons]
    unfold dedupe
    rw [ih]
    by_cases hab : a = b
    · rw [if_pos hab, if_pos (by rw [hab])]
    · rw [if_neg hab, if_neg (fun z => hab (h a (by simp) b (by simp) z)), List.map_cons]
theorem mv_mids : ∀ (ss : List (List Nat)) (p : List Nat) (b : Nat), MidOk ss → p.length ≤ 1 → ss ≠ [] → dedupe (b :: (sums (b + p.length) ss).map (· - 1)) = b :: sums b (mvM p ss)
  | [], p, b, _, _, h => absurd rfl h
  | [s], p, b, _, _, _ => rfl
  | s :: t :: r, p, b, hm, hp, _ => by
    have hs : 0 < s.length := List.length_pos_iff.mpr hm.1
    have hps : p ++ s ≠ [] := by simp [hm.1]
    have hl : (p ++ s).getLast?.toList.length = 1 := by
      rw [List.getLast?_eq_getLast hps]
      rfl
    have hd : (p ++ s).dropLast.length = p.length + s.length - 1 := by simp
    have e : sums (b + p.length) (s :: t :: r) = (b + p.length + s.length) :: sums (b + p.length + s.length) (t :: r) := rfl
    rw [e, List.map_cons]
    have e2 : b + p.length + s.length = (b + p.length + s.length - 1) + (p ++ s).getLast?.toList.length := by omega
    have ih := mv_mids (t :: r) (p ++ s).getLast?.toList (b + p.length + s.length - 1) hm.2 (by omega) (by simp)
    rw [← e2] at ih
    unfold dedupe mvM
    rw [ih]
    by_cases hz : (p ++ s).dropLast = []
    · have : p.length + s.length - 1 = 0 := by rw [← hd, hz]; rfl
      have e3 : b + p.length + s.length - 1 = b := by omega
      rw [if_pos hz, e3, if_pos rfl]
    · have : 0 < p.length + s.length - 1 := by rw [← hd]; exact List.length_pos_iff.mpr hz
      rw [if_neg hz, if_neg (by omega), sums_cons _ _ mvM_ne, hd]
      have e3 : b + (p.length + s.length - 1) = b + p.length + s.length - 1 := by omega
      rw [e3]
theorem mv_sums {ss : List (List Nat)} (h : SOk ss) : dedupe ((sums 0 ss).map (· - 1)) = sums 0 (mvS ss) := by
  obtain ⟨s, t, r, rfl, hm⟩ := h.cons
  have hl : s.dropLast.length + s.getLast?.toList.length = s.length := by
    rw [← List.length_append, last_split]
  have h1 : s.getLast?.toList.length ≤ 1 := by cases s.getLast? <;> simp
  have := mv_mids (t :: r) s.getLast?.toList s.dropLast.length hm h1 (by simp)
  rw [hl] at this
  show dedupe ((0 + s.length - 1) :: (sums (0 + s.length) (t :: r)).map (· - 1)) = sums 0 (s.dropLast :: mvM s.getLast?.toList (t :: r))
  rw [sums_cons _ _ mvM_ne, Nat.zero_add, Nat.zero_add, ← this, List.length_dropLast]
theorem rmv_sums {ss : List (List Nat)} (h : SOk ss) : dedupe ((sums 0 ss).map fun c => min ss.flatten.length (c + 1)) = sums 0 (revS (mvS (revS ss))) := by
  have h1 := mv_sums h.rev
  have h2 := h.rev.mv.2.1
  have hb := h.asc.le
  rw [sums_rev, ← h1, sums_rev, h2, revS_flat, List.map_reverse, dedupe_rev, List.map_reverse, List.reverse_reverse, List.map_map]
  generalize hn : ss.flatten.length = n at *
  rw [← dedupe_map (f := fun c => n - c), List.map_map]
  · congr 1
    refine List.map_congr_left fun c hc => ?_
    have := (hb c hc).2
    show min n (c + 1) = n - (n - c - 1)
    omega
  · intro x hx y hy e
    obtain ⟨c, _, rfl⟩ := List.mem_map.mp hx
    obtain ⟨d, _, rfl⟩ := List.mem_map.mp hy
    simp only [Function.comp_apply] at e ⊢
    omega
theorem sums_flat {ss : List (List Nat)} (h : 2 ≤ ss.length) : dedupe (sums 0 ss) = sums 0 (norm ss) := by
  match ss, h with
  | s :: t :: r, _ => exact dedupe_norm s t r
/-- the key pressed, by places -/
theorem step_sok {ss : List (List Nat)} (h : SOk ss) (k : Nat) : SOk (stepS ss k) := by
  unfold stepS
  split
  · obtain ⟨s, m, t, rfl, hm⟩ := h
    rw [bsS_form]
    exact .norm
  · split
    · exact h.mv.1
    · split
      · obtain ⟨s, m, t, rfl, hm⟩ := h
        rw [del_form]
        exact .norm
      · split
        · exact h.rev.mv.1.rev
        · obtain ⟨s, m, t, rfl, hm⟩ := h
          have e : typeS k (s :: m ++ [t]) = _ := typeS_form k (s :: m) t
          refine ⟨s ++ [k], m.map (· ++ [k]), t, e, fun u hu => ?_⟩
          obtain ⟨v, _, rfl⟩ := List.mem_map.mp hu
          simp
end Dl

/-! plain laws, part 9: pressing, the program's own defs -/
namespace Dl
open PySem
open PySem.Spec
open PyProof.Rows
open L2
theorem lcP {α : Type} {i j : Nat} {we : WE} {wt : WT} {sl : List (Option R)} {st : Sto} (e1 e2 : α → D) (p : α → Bool) (f : α → D) {l : List α} {k : List D → Env → Prop} {ds : List D} (hd : ds = l.map fun a => .tuple [e1 a, e2 a]) (hij : i ≠ j)
    (ht : ∀ a ∈ l, ∀ K X, K (p a) ⟨(sl.set i (some (.d (e1 a)))).set j (some (.d (e2 a))), st⟩ → wt ⟨(sl.set i (some (.d (e1 a)))).set j (some (.d (e2 a))), st⟩ K X)
    (he : ∀ a ∈ l, p a = true → ∀ (K : KE) X, K (.d (f a)) ⟨(sl.set i (some (.d (e1 a)))).set j (some (.d (e2 a))), st⟩ → we ⟨(sl.set i (some (.d (e1 a)))).set j (some (.d (e2 a))), st⟩ K X)
    (hz : l.length ≤ sizeLine) (h : k ((l.filter p).map f) ⟨sl, st⟩) (hv : ∀ v ∈ [i, j], v < sl.length → sl[v]? = some (heldD ⟨sl, st⟩ v)) : lcR (.tp [i, j]) wt we [i, j] ds ⟨sl, st⟩ k := by
  refine lcT (fun a => [e1 a, e2 a]) p f (fun a => (sl.set i (some (.d (e1 a)))).set j (some (.d (e2 a)))) hd (fun a _ K hK => ?_) (fun a _ => ?_) ht he hz h hv
  · show K ⟨(((sl.set j none).set i none).set i (some (.d (e1 a)))).set j (some (.d (e2 a))), st⟩
    rw [List.set_set, List.set_comm _ _ hij.symm, List.set_set]
    exact hK
  · show (((sl.set i _).set j _).set j none).set i none = (sl.set j none).set i none
    rw [List.set_set, List.set_comm _ _ hij, List.set_set, List.set_comm _ _ hij.symm]
theorem pairs_mapP {α β : Type} (a : α → D) (b : β → D) (l : List α) (l' : List β) : pairs (l.map a) (l'.map b) = (l.zip l').map fun x => .tuple [a x.1, b x.2] := by
  unfold pairs
  induction l generalizing l' with
  | nil => rfl
  | cons x l ih =>
    cases l' with
    | nil => rfl
    | cons y l' => simpa using ih l'
theorem cut_nat {α : Type} {l : List α} {a b : Nat} : cut l (some (a : Int)) (some (b : Int)) = (l.drop (min a l.length)).take (min b l.length - min a l.length) := by
  unfold cut
  rw [HT.sIx_nat, HT.sIx_nat]
theorem cut_to {α : Type} {l : List α} {b : Nat} : cut l none (some (b : Int)) = l.take b := by
  unfold cut
  rw [HT.sIx_none, HT.sIx_nat, List.drop_zero, Nat.sub_zero]
  by_cases h : b ≤ l.length
  · rw [Nat.min_eq_left h]
  · rw [Nat.min_eq_right (by omega), List.take_length, List.take_of_length_le (by omega)]
theorem cut_to1 {α : Type} {l : List α} : cut l none (some 1) = l.take 1 := cut_to (b := 1)
theorem cut_fr1 {α : Type} {l : List α} : cut l (some 1) none = l.drop 1 := cut_from (i := 1) (by decide)
theorem cut_frN {α : Type} {l : List α} {b : Nat} : cut l (some (b : Int)) none = l.drop b := cut_from (i := b) (by omega)
theorem cut_lastM {α : Type} {l : List α} : cut l (some (-1)) none = l.drop (l.length - 1) := by
  have e : HT.sIx l.length 0 (some (-1)) = l.length - 1 := by
    show (if (-1 : Int) < 0 then ((-1 : Int) + (l.length : Int)).toNat else min (-1 : Int).toNat l.length) = _
    rw [if_pos (by decide)]
    omega
  unfold cut
  rw [HT.sIx_none, e]
  exact List.take_of_length_le (by simp)
/-- texts of a list -/
def strsL (L : List (List Nat)) : List D := L.map fun s => .str (S s)
theorem joinS : ∀ L : List (List Nat), Txt.join (S []) (L.map S) = S L.flatten := by
  intro L
  rw [TL.join_eq]
  induction L with
  | nil => rfl
  | cons s L ih =>
    cases L with
    | nil =>
      show S s = _
      simp
    | cons t L =>
      show S s ++ S [] ++ Str.join (S []) ((t :: L).map S) = _
      rw [ih, S_app, S_app]
      congr 1
      simp
theorem sum_lens (L : List (List Nat)) : ((L.map S).map (·.length)).sum = L.flatten.length := by
  induction L with
  | nil => rfl
  | cons s L ih =>
    rw [List.map_cons, List.map_cons, List.sum_cons, ih, List.flatten_cons, List.length_append, S_len]
section
variable {st st0 : Sto} {k : KS} {x : XS0} {n m : Nat}
theorem r_places_l {l : List Nat} {n : Nat} (hst : st[n]? = some (some (natsD l))) (hn : l.length ≤ 1000) (hb : ∀ i ∈ l, i ≤ 1000000) (h : k (.d (.tuple (natsD (dedupe l)))) (st.set n none)) : F_places_without_copies [.l n] st k x := by
  have hlt : n < st.length := (List.getElem?_eq_some_iff.mp hst).1
  rw [← foldl_dedupe] at h
  simp [F_places_without_copies, e_run, w_places_without_copies, sizeLine_eq]
  rw [e_lstAt (by rw [e_getL hlt]; exact hst), e_setL hlt]
  have hne : ¬ st.length = n := by omega
  simp [hne]
  refine loopF_fold (α := Nat) (σ := List Nat) (fun (i : Nat) => .int i) dstep (fun l acc => acc.length + l.length ≤ 1000 ∧ (∀ i ∈ acc, i ≤ 1000000) ∧ ∀ i ∈ l, i ≤ 1000000)
    (fun acc r => ∃ y2 : Option D, r = ⟨[some (.d (.list (natsD l))), some (.l st.length), y2.map R.d], st.set n none ++ [some (natsD acc)]⟩) ?_ ?_ l [] _ ⟨by simpa using hn, by simp, hb⟩ ⟨none, rfl⟩ ?_
  · rintro p l2 acc r K ⟨h1, h2, h3⟩ ⟨y2, rfl⟩ hK
    simp only [List.length_cons] at h1
    have hm : (st.set n none).length = st.length := by simp
    simp [sizeLine_eq, e_lstM hm]
    have hf := fit_nats (l := acc) (by omega) h2
    by_cases ha : acc = []
    · subst ha
      refine g_eqNil hf (by decide) ?_
      simp [natsD, uAppend, sizeLine_eq, e_lstM hm, e_setM hm]
      exact hK _ ⟨some (.int p), by simp [dstep, natsD]⟩
    · refine g_eqNil hf (by decide) ?_
      have e1 : (natsD acc).isEmpty = false := by
        cases acc with
        | nil => exact absurd rfl ha
        | cons a b => rfl
      have e2 : (natsD acc).getLast? = some (.int (acc.getLast ha : Nat)) := by
        unfold natsD
        rw [List.getLast?_map, List.getLast?_eq_getLast ha]
        rfl
      have e3 : (natsD acc).length = acc.length := by simp [natsD]
      rw [e1]
      simp [g_ixL, e2, g_ne, e_lstM hm]
      by_cases hp : acc.getLast ha = p
      · have ed : dstep acc p = acc := by simp [dstep, ha, List.getLast?_eq_getLast ha, hp]
        rw [ed] at hK
        have := hK _ ⟨some (.int p), rfl⟩
        simpa [hp] using this
      · have ed : dstep acc p = acc ++ [p] := by simp [dstep, ha, List.getLast?_eq_getLast ha, hp]
        rw [ed] at hK
        have := hK _ ⟨some (.int p), rfl⟩
        have hp' : ¬ ((acc.getLast ha : Nat) : Int) = (p : Int) := by omega
        simp [hp', uAppend, sizeLine_eq, e3, e_lstM hm, e_setM hm]
        refine ⟨by omega, ?_⟩
        simpa [natsD] using this
  · rintro p l2 acc ⟨h1, h2, h3⟩
    simp only [List.length_cons] at h1
    have hl : (dstep acc p).length ≤ acc.length + 1 := by
      unfold dstep
      split <;> simp
    refine ⟨by omega, fun i hi => ?_, fun i hi => h3 i (List.mem_cons_of_mem _ hi)⟩
    unfold dstep at hi
    split at hi
    · rcases List.mem_append.mp hi with hi | hi
      · exact h2 i hi
      · rw [List.mem_singleton.mp hi]
        exact h3 p (by simp)
    · exact h2 i hi
  · rintro r ⟨y2, rfl⟩
    have hm : (st.set n none).length = st.length := by simp
    simp [e_lstM hm, e_takeM hm]
    exact h
/-- a state as the program has it -/
def stD (ss : List (List Nat)) : D := .tuple [.str (S ss.flatten), .tuple (natsD (sums 0 ss))]
theorem natsD_snoc (l : List Nat) (i : Nat) : natsD (l ++ [i]) = natsD l ++ [.int i] := by simp [natsD]
theorem r_state_with {L : List (List Nat)} (h2 : 2 ≤ L.length) (hl : L.length ≤ 1000) (hf : L.flatten.length ≤ 1000000) (h : k (.d (stD (norm L))) st) : F_state_with [.d (.list (strsL L))] st k x := by
  simp [F_state_with, e_run, w_state_with, sizeLine_eq, cut_dropLast]
  have e0 : (strsL L).dropLast = L.dropLast.map fun s => .str (S s) := by simp [strsL, List.map_dropLast]
  rw [e0]
  have hsub : ∀ s ∈ L.dropLast, s.length ≤ L.flatten.length := fun s hs => by
    have : s ∈ L := List.dropLast_subset _ hs
    exact (List.sublist_flatten_of_mem this).length_le
  have hdl : L.dropLast.flatten.length ≤ L.flatten.length := by
    obtain ⟨s, m, t, rfl⟩ := two_form h2
    have ed : (s :: (m ++ [t])).dropLast = s :: m := by
      show (s :: m ++ [t]).dropLast = _
      rw [List.dropLast_concat]
    rw [ed]
    simp only [List.flatten_cons, List.length_append, List.flatten_append]
    omega
  refine loopF_fold (α := List Nat) (σ := List Nat × Nat) (fun s => .str (S s)) (fun q s => (q.1 ++ [q.2 + s.length], q.2 + s.length)) (fun l q => q.1.length + l.length ≤ 1000 ∧ q.2 + l.flatten.length ≤ 1000000)
    (fun q r => ∃ y3 : Option D, r = ⟨[some (.d (.list (strsL L))), some (.l st.length), some (.d (.int q.2)), y3.map R.d], st ++ [some (natsD q.1)]⟩) ?_ ?_ L.dropLast ([], 0) _ ⟨by simp; omega, by simp only; omega⟩ ⟨none, rfl⟩ ?_
  · rintro s l2 q r K ⟨h1, h3⟩ ⟨y3, rfl⟩ hK
    simp only [List.length_cons, List.flatten_cons, List.length_append] at h1 h3
    have e3 : (natsD q.1).length = q.1.length := by simp [natsD]
    simp [g_lenS, sizeLine_eq, uAppend, e3]
    refine ⟨by omega, by omega, hK _ ⟨some (.str (S s)), ?_⟩⟩
    rw [natsD_snoc]
    simp
  · rintro s l2 q ⟨h1, h3⟩
    simp only [List.length_cons, List.flatten_cons, List.length_append] at h1 h3
    exact ⟨by simp only [List.length_append, List.length_singleton]; omega, by dsimp only; omega⟩
  · rintro r ⟨y3, rfl⟩
    have ef : ∀ (l : List (List Nat)) (q : List Nat × Nat), (l.foldl (fun q s => (q.1 ++ [q.2 + s.length], q.2 + s.length)) q).1 = q.1 ++ (l.foldl (fun q s => (q.1 ++ [q.2 + s.length], q.2 + s.length)) (([] : List Nat), q.2)).1 := by
      intro l
      induction l with
      | nil => simp
      | cons s l ih =>
        intro q
        rw [List.foldl_cons, List.foldl_cons, ih, ih ([] ++ _, _)]
        simp
    have es : ∀ (l : List (List Nat)) (t : List Nat) (a : Nat), (l.foldl (fun q s => (q.1 ++ [q.2 + s.length], q.2 + s.length)) (([] : List Nat), a)).1 = sums a (l ++ [t]) := by
      intro l
      induction l with
      | nil => intro t a; rfl
      | cons s l ih =>
        intro t a
        rw [List.foldl_cons, ef, ih t]
        show _ = sums a (s :: (l ++ [t]))
        rw [sums_cons _ _ (by simp)]
        rfl
    obtain ⟨s, m, t, rfl⟩ := two_form h2
    have ed : (s :: (m ++ [t])).dropLast = s :: m := by
      show (s :: m ++ [t]).dropLast = _
      rw [List.dropLast_concat]
    rw [ed] at hsub hdl ⊢
    have e1 := es (s :: m) t 0
    generalize (List.foldl (fun (q : List Nat × Nat) s => (q.1 ++ [q.2 + s.length], q.2 + s.length)) ([], 0) (s :: m)) = Q at e1 ⊢
    have e1' : Q.1 = sums 0 (s :: (m ++ [t])) := e1
    have hb : ∀ i ∈ Q.1, i ≤ 1000000 := by
      rw [e1']
      have go : ∀ (L : List (List Nat)) (a : Nat), ∀ i ∈ sums a L, i ≤ a + L.flatten.length := by
        intro L
        induction L with
        | nil => intro a i hi; cases hi
        | cons s r ih =>
          intro a i hi
          cases r with
          | nil => cases hi
          | cons t r =>
            rw [List.flatten_cons, List.length_append]
            rcases List.mem_cons.mp hi with rfl | hi
            · omega
            · have := ih _ i hi
              omega
      intro i hi
      have := go _ 0 i hi
      omega
    have hql : Q.1.length ≤ 1000 := by
      rw [e1', sums_len]
      simp at hl ⊢
      omega
    simp
    rw [mJ (l := strsL (s :: (m ++ [t]))) (zs := (s :: (m ++ [t])).map S) (strsD_map S _), sum_lens, joinS]
    refine ⟨by simp at hf ⊢; omega, ?_⟩
    refine r_places_l (l := Q.1) (by simp) hql hb ?_
    simp [sizeLine_eq]
    unfold stD at h
    rw [norm_flat] at h
    rw [e1', sums_flat (by simp)]
    simpa using h
theorem zip_snoc {α β : Type} : ∀ (A : List α) (B : List β) (x : α), A.length = B.length → (A ++ [x]).zip B = A.zip B
  | [], [], x, _ => rfl
  | [], b :: B, x, h => by cases h
  | a :: A, [], x, h => by cases h
  | a :: A, b :: B, x, h => by
    rw [List.cons_append, List.zip_cons_cons, List.zip_cons_cons, zip_snoc A B x (by simpa using h)]
/-- what is cut out between the bounds -/
theorem zip_cut : ∀ (ss : List (List Nat)) (pre : List Nat), ss ≠ [] → ((pre.length :: sums pre.length ss).zip (sums pre.length ss ++ [pre.length + ss.flatten.length])).map (fun p => PyData.str (S (cut (pre ++ ss.flatten) (some (p.1 : Int)) (some (p.2 : Int))))) = strsL ss
  | [], pre, h => absurd rfl h
  | [s], pre, _ => by
    simp [sums, cut_nat, strsL]
  | s :: t :: r, pre, _ => by
    have ih := zip_cut (t :: r) (pre ++ s) (by simp)
    have e1 : sums pre.length (s :: t :: r) = (pre.length + s.length) :: sums (pre.length + s.length) (t :: r) := rfl
    have e2 : (pre ++ s).length = pre.length + s.length := by simp
    have e3 : pre ++ (s :: t :: r).flatten = pre ++ s ++ (t :: r).flatten := by simp
    have e4 : pre.length + (s :: t :: r).flatten.length = pre.length + s.length + (t :: r).flatten.length := by
      rw [List.flatten_cons, List.length_append]
      omega
    rw [e2] at ih
    rw [e1, e3, e4, List.cons_append, List.zip_cons_cons, List.map_cons, ih]
    show _ = PyData.str (S s) :: strsL (t :: r)
    congr 3
    rw [cut_nat]
    have g1 : min pre.length (pre ++ s ++ (t :: r).flatten).length = pre.length := by simp
    have g2 : min (pre.length + s.length) (pre ++ s ++ (t :: r).flatten).length = pre.length + s.length := by simp
    rw [g1, g2, List.append_assoc, List.drop_left]
    rw [show pre.length + s.length - pre.length = s.length by omega, List.take_left]
theorem r_stretches_of {ss : List (List Nat)} (h : SOk ss) (hl : ss.length ≤ 1000) (hf : ss.flatten.length ≤ 1000000) (hk : k (.d (.list (strsL ss))) st) : F_stretches_of [.d (.str (S ss.flatten)), .d (.tuple (natsD (sums 0 ss)))] st k x := by
  have hne : ss ≠ [] := by
    obtain ⟨s, m, t, rfl, _⟩ := h
    simp
  have hsl := sums_len ss 0
  have hnl : (natsD (sums 0 ss)).length = ss.length - 1 := by rw [← hsl]; simp [natsD]
  have key := zip_cut ss [] hne
  generalize hT : ss.flatten = T at *
  simp [F_stretches_of, e_run, w_stretches_of, sizeLine_eq, g_lenS, cut_fr1, hnl]
  refine ⟨by omega, by omega, by omega, ?_⟩
  have ez : PyData.int 0 :: (natsD (sums 0 ss) ++ [PyData.int T.length]) = ((0 :: sums 0 ss) ++ [T.length]).map fun (i : Nat) => PyData.int i := by simp [natsD]
  have ez2 : natsD (sums 0 ss) ++ [PyData.int T.length] = (sums 0 ss ++ [T.length]).map fun (i : Nat) => PyData.int i := by simp [natsD]
  rw [ez, ez2, pairs_mapP]
  have ezip : (0 :: sums 0 ss ++ [T.length]).zip (sums 0 ss ++ [T.length]) = (0 :: sums 0 ss).zip (sums 0 ss ++ [T.length]) := by
    refine zip_snoc _ _ _ ?_
    simp
  rw [ezip]
  refine lcP (α := Nat × Nat) (l := (0 :: sums 0 ss).zip (sums 0 ss ++ [T.length])) (fun p => .int p.1) (fun p => .int p.2) (fun _ => true) (fun p => .str (S (cut T (some (p.1 : Int)) (some (p.2 : Int))))) rfl (by decide) (fun p _ K X hK => by simpa using hK) (fun p _ _ K X hK => ?_) (by rw [sizeLine_eq, List.length_zip]; simp; omega) ?_ (by
    intro v hv _
    simp at hv
    rcases hv with rfl | rfl <;> rfl)
  · simp [g_slS, sizeLine_eq]
    exact ⟨by omega, by simpa using hK⟩
  · rw [List.filter_eq_self.mpr (fun _ _ => rfl)]
    simp at key
    simp
    rw [key]
    exact hk
theorem lits (L : List (List Nat)) : strsL L = L.map fun s => PyData.str (S s) := rfl
theorem natsD_map (l : List Nat) (f : Nat → Nat) : (l.map fun i => PyData.int ((f i : Nat) : Int)) = natsD (l.map f) := by simp [natsD]
theorem flat_le (f : List Nat → List Nat) (hf : ∀ u, (f u).length ≤ u.length + 1) : ∀ m : List (List Nat), (m.map f).flatten.length ≤ m.flatten.length + m.length
  | [] => by simp
  | u :: m => by
    have := flat_le f hf m
    have := hf u
    simp only [List.map_cons, List.flatten_cons, List.length_append, List.length_cons]
    omega
/-- one key -/
theorem r_step_key {ss : List (List Nat)} {c : Nat} (h : SOk ss) (hl : ss.length ≤ 900) (hf : ss.flatten.length ≤ 900000) (hk : k (.d (stD (stepS ss c))) st) : F_step_key [.d (.str (S ss.flatten)), .d (.tuple (natsD (sums 0 ss))), .d (.str (S [c]))] st k x := by
  have hsl := sums_len ss 0
  have hb := h.asc.le
  have h4 : 2 ≤ sizeLine := sz (by decide)
  have fm := h.mv.2.1
  have fr : (revS (mvS (revS ss))).flatten = ss.flatten := by
    have go : ∀ L : List (List Nat), (revS L).flatten = L.flatten.reverse := by
      intro L
      induction L with
      | nil => rfl
      | cons s r ih =>
        have e : revS (s :: r) = revS r ++ [s.reverse] := by simp [revS]
        rw [e, List.flatten_append, ih, List.flatten_cons (l := s), List.reverse_append]
        simp
    rw [go, h.rev.mv.2.1, go, List.reverse_reverse]
  have st1 := mv_sums h
  have st2 := rmv_sums h
  have rs := fun K X (hK : K (.d (.list (strsL ss))) st) => r_stretches_of (k := K) (x := X) h (by omega) (by omega) hK
  by_cases h60 : c = 60
  · subst h60
    have e1 : stepS ss 60 = mvS ss := rfl
    rw [e1] at hk
    unfold stD at hk
    rw [fm, ← st1] at hk
    generalize hT : ss.flatten = T at *
    simp [F_step_key, e_run, w_step_key, g_eqS]
    refine lc1y (α := Nat) (l := sums 0 ss) (fun (i : Nat) => .int i) (fun i => .int ((i - 1 : Nat) : Int)) rfl (fun i hi K X hK => ?_) (by rw [sizeLine_eq]; omega) ?_
    · have e : max 0 ((i : Int) - 1) = ((i - 1 : Nat) : Int) := by omega
      simp
      rw [e]
      exact hK
    · rw [natsD_map]
      simp
      refine r_places (by simp; omega) (fun i hi => ?_) ?_
      · obtain ⟨j, hj, rfl⟩ := List.mem_map.mp hi
        have := (hb j hj).2
        omega
      · rw [foldl_dedupe]
        simp [h4]
        exact hk
  · by_cases h62 : c = 62
    · subst h62
      have e1 : stepS ss 62 = revS (mvS (revS ss)) := rfl
      rw [e1] at hk
      unfold stD at hk
      rw [fr, ← st2] at hk
      generalize hT : ss.flatten = T at *
      simp [F_step_key, e_run, w_step_key, g_eqS]
      refine lc1y (α := Nat) (l := sums 0 ss) (fun (i : Nat) => .int i) (fun i => .int ((min T.length (i + 1) : Nat) : Int)) rfl (fun i hi K X hK => ?_) (by rw [sizeLine_eq]; omega) ?_
      · have e : min (T.length : Int) ((i : Int) + 1) = ((min T.length (i + 1) : Nat) : Int) := by omega
        simp [g_lenS, sizeLine_eq]
        rw [e]
        exact ⟨by omega, hK⟩
      · rw [natsD_map]
        simp
        refine r_places (by simp; omega) (fun i hi => ?_) ?_
        · obtain ⟨j, hj, rfl⟩ := List.mem_map.mp hi
          have := (hb j hj).2
          omega
        · rw [foldl_dedupe]
          simp [h4]
          exact hk
    · obtain ⟨s, m, t, rfl, hm⟩ := h
      have hL : (s :: (m ++ [t])).length = m.length + 2 := by simp
      have fm2 : m.flatten.length ≤ 900000 := by
        simp only [List.flatten_cons, List.length_append, List.flatten_append] at hf
        omega
      have hst : s.length + m.flatten.length + t.length ≤ 900000 := by
        simp only [List.flatten_cons, List.length_append, List.flatten_append, List.flatten_nil, List.length_nil] at hf
        omega
      by_cases h35 : c = 35
      · subst h35
        have e1 : stepS (s :: (m ++ [t])) 35 = norm (s :: (m.map (List.drop 1) ++ [t.drop 1])) := by
          rw [norm_form, ← del_form]
          rfl
        rw [e1] at hk
        have hfl := flat_le (List.drop 1) (fun u => by simp; omega) m
        simp [F_step_key, e_run, w_step_key, g_eqS, -List.flatten_cons, -List.flatten_append, -List.flatten_nil]
        refine rs _ _ ?_
        simp [cut_to1, cut_fr1, lits, -List.flatten_cons, -List.flatten_append, -List.flatten_nil]
        refine lc1y (α := List Nat) (l := m ++ [t]) (fun s => .str (S s)) (fun s => .str (S (s.drop 1))) (by simp) (fun u hu K X hK => ?_) (by rw [sizeLine_eq]; simp; omega) ?_
        · have hul : u.length ≤ 900000 := by
            rcases List.mem_append.mp hu with hu | hu
            · have := (List.sublist_flatten_of_mem hu).length_le
              omega
            · rw [List.mem_singleton.mp hu]
              omega
          simp [g_slS, cut_fr1, sizeLine_eq]
          exact ⟨by omega, by simpa using hK⟩
        · have e2 : (PyData.str (S s) :: (m ++ [t]).map fun s => PyData.str (S (s.drop 1))) = strsL (s :: (m.map (List.drop 1) ++ [t.drop 1])) := by simp [strsL]
          rw [e2]
          simp [sizeLine_eq]
          refine ⟨by omega, r_state_with (by simp) (by simp; omega) ?_ (by simpa using hk)⟩
          simp only [List.flatten_cons, List.flatten_append, List.length_append, List.flatten_nil, List.length_nil, List.length_drop, List.length_tail]
          omega
      · by_cases h45 : c = 45
        · subst h45
          have e1 : stepS (s :: (m ++ [t])) 45 = norm (s.dropLast :: (m.map List.dropLast ++ [t])) := by
            rw [norm_form, ← bsS_form]
            rfl
          rw [e1] at hk
          have hfl := flat_le List.dropLast (fun u => by simp; omega) m
          have ed : (strsL (s :: (m ++ [t]))).dropLast = (s :: m).map fun s => PyData.str (S s) := by
            have : strsL (s :: (m ++ [t])) = (s :: m).map (fun s => PyData.str (S s)) ++ [.str (S t)] := by simp [strsL]
            rw [this, List.dropLast_concat]
          have el : (strsL (s :: (m ++ [t]))).drop ((strsL (s :: (m ++ [t]))).length - 1) = [.str (S t)] := by
            have : strsL (s :: (m ++ [t])) = (s :: m).map (fun s => PyData.str (S s)) ++ [.str (S t)] := by simp [strsL]
            rw [this, List.length_append, List.length_singleton, Nat.add_sub_cancel, List.drop_left]
          simp [F_step_key, e_run, w_step_key, g_eqS, -List.flatten_cons, -List.flatten_append, -List.flatten_nil]
          refine rs _ _ ?_
          simp [cut_dropLast, cut_lastM, -List.flatten_cons, -List.flatten_append, -List.flatten_nil]
          rw [ed]
          refine lc1y (α := List Nat) (l := s :: m) (fun s => .str (S s)) (fun s => .str (S s.dropLast)) rfl (fun u hu K X hK => ?_) (by rw [sizeLine_eq]; simp; omega) ?_
          · have hul : u.length ≤ 900000 := by
              rcases List.mem_cons.mp hu with rfl | hu
              · omega
              · have := (List.sublist_flatten_of_mem hu).length_le
                omega
            simp [g_slS, cut_dropLast, sizeLine_eq]
            exact ⟨by omega, by simpa using hK⟩
          · simp [cut_lastM, el, -List.flatten_cons, -List.flatten_append, -List.flatten_nil]
            have e2 : (PyData.str (S s.dropLast) :: (m.map (fun s => PyData.str (S s.dropLast)) ++ [PyData.str (S t)])) = strsL (s.dropLast :: (m.map List.dropLast ++ [t])) := by simp [strsL]
            rw [e2]
            simp [sizeLine_eq]
            refine ⟨by omega, r_state_with (by simp) (by simp; omega) ?_ (by simpa using hk)⟩
            simp only [List.flatten_cons, List.flatten_append, List.length_append, List.flatten_nil, List.length_nil, List.length_dropLast]
            omega
        · have e1 : stepS (s :: (m ++ [t])) c = norm ((s ++ [c]) :: (m.map (· ++ [c]) ++ [t])) := by
            have ef : (m.map (· ++ [c])).filter neL = m.map (· ++ [c]) := List.filter_eq_self.mpr fun u hu => by
              obtain ⟨v, _, rfl⟩ := List.mem_map.mp hu
              simp [neL]
            rw [norm_form, ef]
            have e : typeS c (s :: m ++ [t]) = _ := typeS_form c (s :: m) t
            simp [stepS, h60, h62, h35, h45]
            exact e
          rw [e1] at hk
          have hfl := flat_le (· ++ [c]) (fun u => by simp) m
          have ed : (strsL (s :: (m ++ [t]))).dropLast = (s :: m).map fun s => PyData.str (S s) := by
            have : strsL (s :: (m ++ [t])) = (s :: m).map (fun s => PyData.str (S s)) ++ [.str (S t)] := by simp [strsL]
            rw [this, List.dropLast_concat]
          have el : (strsL (s :: (m ++ [t]))).drop ((strsL (s :: (m ++ [t]))).length - 1) = [.str (S t)] := by
            have : strsL (s :: (m ++ [t])) = (s :: m).map (fun s => PyData.str (S s)) ++ [.str (S t)] := by simp [strsL]
            rw [this, List.length_append, List.length_singleton, Nat.add_sub_cancel, List.drop_left]
          simp [F_step_key, e_run, w_step_key, g_eqS, h60, h62, h35, h45, -List.flatten_cons, -List.flatten_append, -List.flatten_nil]
          refine rs _ _ ?_
          simp [cut_dropLast, cut_lastM, -List.flatten_cons, -List.flatten_append, -List.flatten_nil]
          rw [ed]
          refine lc1y (α := List Nat) (l := s :: m) (fun s => .str (S s)) (fun s => .str (S (s ++ [c]))) rfl (fun u hu K X hK => ?_) (by rw [sizeLine_eq]; simp; omega) ?_
          · have hul : u.length ≤ 900000 := by
              rcases List.mem_cons.mp hu with rfl | hu
              · omega
              · have := (List.sublist_flatten_of_mem hu).length_le
                omega
            simp [g_addS, sizeLine_eq]
            exact ⟨by omega, by simpa using hK⟩
          · simp [cut_lastM, el, -List.flatten_cons, -List.flatten_append, -List.flatten_nil]
            have e2 : (PyData.str (S (s ++ [c])) :: (m.map (fun s => PyData.str (S (s ++ [c]))) ++ [PyData.str (S t)])) = strsL ((s ++ [c]) :: (m.map (· ++ [c]) ++ [t])) := by simp [strsL]
            rw [e2]
            simp [sizeLine_eq]
            refine ⟨by omega, r_state_with (by simp) (by simp; omega) ?_ (by simpa using hk)⟩
            simp only [List.flatten_cons, List.flatten_append, List.length_append, List.flatten_nil, List.length_nil, List.length_singleton]
            omega
end
end Dl

/-! plain laws, part 9b: pressed; the law's rows -/
namespace Dl
open PySem
open PySem.Spec
open PyProof.Rows
open L2
section
variable {st st0 : Sto} {k : KS} {x : XS0} {n m : Nat}
theorem g_eqNilT {xs : List D} {kb : Bool → Prop} {h w : Nat} (f : Fit h w (.tuple xs)) (hh : h ≤ 64) (q : kb xs.isEmpty) : gEq (.tuple xs) (.tuple []) kb := by
  refine ⟨f.shp hh, ?_, ?_⟩
  · show (PyData.canLay0 (.tuple []) && decide ((PyData.tuple []).depth ≤ 64)) = true
    simp [PyData.canLay0, PyData.canLayAll0, PyData.depth, PyData.depthAll]
  · have e : eqd (.tuple xs) (.tuple []) = xs.isEmpty := by
      show PyData.eqv _ _ = _
      cases xs <;> simp [PyData.eqv, PyData.eqvAll]
    rw [e]
    exact q
theorem fit_natsT {l : List Nat} (hn : l.length ≤ 1000) (hb : ∀ i ∈ l, i ≤ 1000000) : Fit 1 (1000 * 201) (.tuple (natsD l)) := fit_tup (h := 0) (w := 200) (n := 1000) (fun d hd => by
  obtain ⟨i, hi, rfl⟩ := List.mem_map.mp hd
  have := hb i hi
  exact fit_int (by omega)) (by simpa [natsD] using hn)
theorem r_is_text {t : List Nat} (hz : t.length ≤ 1000000) (hl : ∀ c ∈ t, c ∈ low ++ upp) (h : k (.d (.bool true)) st) : F_is_text [.d (.str (S t))] st k x := by
  simp [F_is_text, e_run, w_is_text, signs_S]
  refine lc1y (α := Nat) sign (fun c => .bool true) rfl (fun c hc K X hK => ?_) (sz hz) ?_
  · simp [sign_S]
    by_cases h1 : c ∈ low
    · simpa [h1, sign_S] using hK
    · have h2 : c ∈ upp := (List.mem_append.mp (hl c hc)).resolve_left h1
      simpa [h1, h2, sign_S] using hK
  · try simp
    rw [g_all (boolsD_map (fun _ => true) t), all_true fun _ _ => rfl]
    simpa using h
theorem r_check_text {t : List Nat} (hz : t.length ≤ 1000000) (hl : ∀ c ∈ t, c ∈ low ++ upp) (h : k (.d .none) st) : F_check_text [.d (.str (S t))] st k x := by
  simp [F_check_text, e_run, w_check_text]
  try simp
  refine r_is_text hz hl ?_
  simpa using h
theorem asc_zip : ∀ {cs : List Nat} {a b : Nat}, Asc a b cs → ∀ p ∈ cs.zip (cs.drop 1), p.1 < p.2
  | [], a, b, _, p, hp => by simp at hp
  | [c], a, b, _, p, hp => by simp at hp
  | c :: d :: cs, a, b, h, p, hp => by
    rw [List.drop_succ_cons, List.drop_zero, List.zip_cons_cons] at hp
    rcases List.mem_cons.mp hp with rfl | hp
    · have := h.2.2.1
      dsimp only
      omega
    · exact asc_zip (cs := d :: cs) h.2.2 p (by simpa using hp)
theorem r_is_cursors {t cs : List Nat} (hz : t.length ≤ 900000) (hc : cs.length ≤ 900) (hne : cs ≠ []) (ha : Asc 0 t.length cs) (h : k (.d (.bool true)) st) : F_is_cursors [.d (.str (S t)), .d (.tuple (natsD cs))] st k x := by
  have hb := ha.le
  have hf := fit_natsT (l := cs) (by omega) fun i hi => by
    have := (hb i hi).2
    omega
  have hi : (natsD cs).isEmpty = false := by
    cases cs with
    | nil => exact absurd rfl hne
    | cons a b => rfl
  simp [F_is_cursors, e_run, w_is_cursors]
  refine g_eqNilT hf (by decide) ?_
  rw [hi]
  simp
  refine lc1y (α := Nat) (l := cs) (fun (i : Nat) => .int i) (fun _ => .bool true) rfl (fun i hi K X hK => ?_) (by rw [sizeLine_eq]; omega) ?_
  · simp [g_lenS, sizeLine_eq]
    refine ⟨by omega, r_is_integer2 ?_⟩
    have := hb i hi
    have e : (0 : Int) ≤ (i : Int) ∧ (i : Int) ≤ t.length := by omega
    simpa [e.1, e.2] using hK
  · simp
    rw [g_all (boolsD_map (fun _ => true) cs), all_true fun _ _ => rfl]
    simp [cut_fr1]
    have ez : pairs (natsD cs) (natsD cs).tail = (cs.zip (cs.drop 1)).map fun p => PyData.tuple [.int p.1, .int p.2] := by
      have e1 : (natsD cs).tail = (cs.drop 1).map fun (i : Nat) => PyData.int i := by simp [natsD]
      rw [e1]
      exact pairs_mapP _ _ cs (cs.drop 1)
    rw [ez]
    refine lcP (α := Nat × Nat) (l := cs.zip (cs.drop 1)) (fun p => .int p.1) (fun p => .int p.2) (fun _ => true) (fun p => .bool true) rfl (by decide) (fun p _ K X hK => by simpa using hK) (fun p hp _ K X hK => ?_) (by rw [sizeLine_eq, List.length_zip]; simp; omega) ?_ (by
      intro v hv _
      simp at hv
      rcases hv with rfl | rfl <;> rfl)
    · have := asc_zip ha p hp
      have e : ((p.1 : Nat) : Int) < ((p.2 : Nat) : Int) := by omega
      simp
      have e2 : decide (p.1 < p.2) = true := decide_eq_true this
      first
        | (rw [e2]; simpa using hK)
        | (simpa [this] using hK)
    · rw [List.filter_eq_self.mpr (fun _ _ => rfl)]
      simp
      rw [g_all (boolsD_map (fun _ => true) (cs.zip cs.tail)), all_true fun _ _ => rfl]
      simpa using h
theorem r_check_cursors {t cs : List Nat} (hz : t.length ≤ 900000) (hc : cs.length ≤ 900) (hne : cs ≠ []) (ha : Asc 0 t.length cs) (h : k (.d .none) st) : F_check_cursors [.d (.str (S t)), .d (.tuple (natsD cs))] st k x := by
  simp [F_check_cursors, e_run, w_check_cursors]
  try simp
  refine r_is_cursors hz hc hne ha ?_
  simpa using h
/-- bounds of a key -/
theorem flat_sub (f : List Nat → List Nat) (hf : ∀ u, (f u).Sublist u) : ∀ m : List (List Nat), ((m.map f).flatten).Sublist m.flatten
  | [] => by simp
  | u :: m => by
    rw [List.map_cons, List.flatten_cons, List.flatten_cons]
    exact (hf u).append (flat_sub f hf m)
theorem filt_flat (m : List (List Nat)) : (m.filter neL).flatten = m.flatten := by
  induction m with
  | nil => rfl
  | cons u m ih =>
    by_cases hu : u = []
    · subst hu
      rw [List.filter_cons_of_neg (by simp [neL]), ih]
      rfl
    · rw [List.filter_cons_of_pos (neL_iff.mpr hu), List.flatten_cons, ih, List.flatten_cons]
theorem revS_flatten (L : List (List Nat)) : (revS L).flatten = L.flatten.reverse := by
  induction L with
  | nil => rfl
  | cons s r ih =>
    have e : revS (s :: r) = revS r ++ [s.reverse] := by simp [revS]
    rw [e, List.flatten_append, ih, List.flatten_cons (l := s), List.reverse_append]
    simp
theorem revS_len (L : List (List Nat)) : (revS L).length = L.length := by simp [revS]
theorem step_bd {ss : List (List Nat)} (h : SOk ss) (c : Nat) : (stepS ss c).length ≤ ss.length ∧ (stepS ss c).flatten.length ≤ ss.flatten.length + ss.length ∧ ∀ d ∈ (stepS ss c).flatten, d ∈ ss.flatten ∨ (d = c ∧ c ≠ 45 ∧ c ≠ 60 ∧ c ≠ 35 ∧ c ≠ 62) := by
  unfold stepS
  by_cases h45 : c = 45
  · rw [if_pos h45]
    obtain ⟨s, m, t, rfl, hm⟩ := h
    rw [bsS_form]
    have hs : (s.dropLast :: ((m.map List.dropLast).filter neL ++ [t])).flatten.Sublist (s :: (m ++ [t])).flatten := by
      rw [List.flatten_cons, List.flatten_cons, List.flatten_append, List.flatten_append, filt_flat]
      exact (List.dropLast_sublist s).append ((flat_sub _ List.dropLast_sublist m).append (List.Sublist.refl _))
    refine ⟨?_, by have := hs.length_le; omega, fun d hd => .inl (hs.subset hd)⟩
    have := List.length_filter_le neL (m.map List.dropLast)
    simp at this ⊢
    exact this
  · rw [if_neg h45]
    by_cases h60 : c = 60
    · rw [if_pos h60]
      obtain ⟨_, h2, h3⟩ := h.mv
      rw [h2]
      exact ⟨h3, by omega, fun d hd => .inl hd⟩
    · rw [if_neg h60]
      by_cases h35 : c = 35
      · rw [if_pos h35]
        obtain ⟨s, m, t, rfl, hm⟩ := h
        rw [del_form]
        have hs : (s :: ((m.map (List.drop 1)).filter neL ++ [t.drop 1])).flatten.Sublist (s :: (m ++ [t])).flatten := by
          rw [List.flatten_cons, List.flatten_cons, List.flatten_append, List.flatten_append, filt_flat]
          refine (List.Sublist.refl s).append ((flat_sub _ (fun u => List.drop_sublist 1 u) m).append ?_)
          simp only [List.flatten_cons, List.flatten_nil, List.append_nil]
          exact List.drop_sublist 1 t
        refine ⟨?_, by have := hs.length_le; omega, fun d hd => .inl (hs.subset hd)⟩
        have := List.length_filter_le neL (m.map (List.drop 1))
        simp at this ⊢
        exact this
      · rw [if_neg h35]
        by_cases h62 : c = 62
        · rw [if_pos h62]
          obtain ⟨_, h2, h3⟩ := h.rev.mv
          rw [revS_flatten, h2, revS_flatten, List.reverse_reverse, revS_len]
          rw [revS_len] at h3
          exact ⟨h3, by omega, fun d hd => .inl hd⟩
        · rw [if_neg h62]
          obtain ⟨s, m, t, rfl, hm⟩ := h
          have e : typeS c (s :: m ++ [t]) = _ := typeS_form c (s :: m) t
          have e' : typeS c (s :: (m ++ [t])) = (s :: m).map (· ++ [c]) ++ [t] := e
          rw [e']
          have hf := flat_le (· ++ [c]) (fun u => by simp) (s :: m)
          refine ⟨by simp, ?_, fun d hd => ?_⟩
          · simp only [List.flatten_append, List.length_append, List.flatten_cons, List.flatten_nil, List.length_nil, List.length_cons] at hf ⊢
            omega
          · rw [List.flatten_append] at hd
            rcases List.mem_append.mp hd with hd | hd
            · obtain ⟨u, hu, hdu⟩ := List.mem_flatten.mp hd
              obtain ⟨v, hv, rfl⟩ := List.mem_map.mp hu
              rcases List.mem_append.mp hdu with hdu | hdu
              · refine .inl (List.mem_flatten.mpr ⟨v, ?_, hdu⟩)
                rcases List.mem_cons.mp hv with rfl | hv
                · simp
                · simp [hv]
              · exact .inr ⟨List.mem_singleton.mp hdu, h45, h60, h35, h62⟩
            · exact .inl (by simp at hd ⊢; exact .inr (.inr hd))
/-- a state within bounds: a letters, b stretches -/
structure StB (a b : Nat) (ss : List (List Nat)) : Prop where
  ok : SOk ss
  lt : ∀ c ∈ ss.flatten, c ∈ low ++ upp
  fl : ss.flatten.length ≤ a
  nb : ss.length ≤ b
theorem StB.step {a b c : Nat} {ss : List (List Nat)} (h : StB a b ss) (hk : isKeyB c = true) : StB (a + b) b (stepS ss c) := by
  obtain ⟨h1, h2, h3⟩ := step_bd h.ok c
  have hf := h.fl
  have hn := h.nb
  refine ⟨step_sok h.ok c, fun d hd => ?_, by omega, by omega⟩
  rcases h3 d hd with hd | ⟨rfl, g1, g2, g3, g4⟩
  · exact h.lt d hd
  · simp [isKeyB, g1, g2, g3, g4] at hk
    exact List.mem_append_left _ hk
theorem StB.mono {a a' b : Nat} {ss : List (List Nat)} (h : StB a b ss) (ha : a ≤ a') : StB a' b ss := ⟨h.ok, h.lt, Nat.le_trans h.fl ha, h.nb⟩
def pressS (ss : List (List Nat)) (row : List Nat) : List (List Nat) := row.foldl stepS ss
theorem StB.press {b : Nat} : ∀ {row : List Nat} {a : Nat} {ss : List (List Nat)}, StB a b ss → (∀ c ∈ row, isKeyB c = true) → StB (a + row.length * b) b (pressS ss row)
  | [], a, ss, h, _ => by simpa [pressS] using h
  | c :: row, a, ss, h, hk => by
    have ih := StB.press (row := row) (h.step (hk c (by simp))) fun d hd => hk d (List.mem_cons_of_mem _ hd)
    have e : a + b + row.length * b = a + (c :: row).length * b := by
      rw [List.length_cons, Nat.add_mul, Nat.one_mul]
      omega
    rw [e] at ih
    exact ih
theorem r_pressed {ss : List (List Nat)} {row : List Nat} {a b : Nat} (h : StB a b ss) (hk : ∀ c ∈ row, isKeyB c = true) (hr : row.length ≤ 900) (hb : b ≤ 900) (ha : a + row.length * b ≤ 900000) (hK : k (.d (stD (pressS ss row))) st) :
    F_pressed [.d (.str (S ss.flatten)), .d (.tuple (natsD (sums 0 ss))), .d (.str (S row))] st k x := by
  have hfl := h.fl
  have hnb := h.nb
  have hsl := sums_len ss 0
  have h4 : 2 ≤ sizeLine := sz (by decide)
  have hA := h.ok.asc
  have hne := h.ok.ne
  have hlt := h.lt
  have e0 : stD ss = .tuple [.str (S ss.flatten), .tuple (natsD (sums 0 ss))] := rfl
  generalize hT : ss.flatten = T at *
  generalize hC : sums 0 ss = C at *
  simp [F_pressed, e_run, w_pressed]
  refine r_check_text (by omega) hlt ?_
  try simp
  refine r_check_cursors (by omega) (by omega) hne hA ?_
  try simp
  refine r_check_keys (by omega) ?_
  rw [if_pos (List.all_eq_true.mpr hk)]
  simp [h4, signs_S]
  rw [← e0]
  refine loopF_fold (α := Nat) (σ := List (List Nat)) sign stepS (fun l s => (∀ c ∈ l, isKeyB c = true) ∧ ∃ a, StB a b s ∧ a + l.length * b ≤ 900000)
    (fun s r => ∃ y4 : Option D, r = ⟨[some (.d (.str (S T))), some (.d (.tuple (natsD C))), some (.d (.str (S row))), some (.d (stD s)), y4.map R.d], st⟩) ?_ ?_ row ss _ ⟨hk, a, h, ha⟩ ⟨none, rfl⟩ ?_
  · rintro c l s r K ⟨g1, a, g2, g3⟩ ⟨y4, rfl⟩ hK
    have q1 := g2.fl
    have q2 := g2.nb
    rw [List.length_cons, Nat.add_mul, Nat.one_mul] at g3
    simp [stD, sign_S]
    refine r_step_key g2.ok (by omega) (by omega) ?_
    exact hK _ ⟨some (.str (S [c])), rfl⟩
  · rintro c l s ⟨g1, a, g2, g3⟩
    rw [List.length_cons, Nat.add_mul, Nat.one_mul] at g3
    exact ⟨fun d hd => g1 d (List.mem_cons_of_mem _ hd), a + b, g2.step (g1 c (by simp)), by omega⟩
  · rintro r ⟨y4, rfl⟩
    simp
    exact hK
end
end Dl

/-! plain laws, part 23a: characters and places by number, pure -/
namespace Dl
def keepI (q : Nat → Bool) : Nat → List Nat → List Nat
  | _, [] => []
  | o, x :: l => if q o = true then x :: keepI q (o + 1) l else keepI q (o + 1) l
theorem keepI_app (q : Nat → Bool) : ∀ (a : List Nat) (o : Nat) (b : List Nat), keepI q o (a ++ b) = keepI q o a ++ keepI q (o + a.length) b
  | [], o, b => by simp [keepI]
  | x :: a, o, b => by
    have ih := keepI_app q a (o + 1) b
    have e : o + 1 + a.length = o + (x :: a).length := by simp; omega
    rw [e] at ih
    show (if q o = true then x :: keepI q (o + 1) (a ++ b) else keepI q (o + 1) (a ++ b)) = (if q o = true then x :: keepI q (o + 1) a else keepI q (o + 1) a) ++ _
    rw [ih]
    split <;> rfl
theorem keepI_congr {q q' : Nat → Bool} : ∀ (l : List Nat) (o : Nat), (∀ i, o ≤ i → i < o + l.length → q i = q' i) → keepI q o l = keepI q' o l
  | [], o, _ => rfl
  | x :: l, o, h => by
    have ih := keepI_congr l (o + 1) fun i h1 h2 => h i (by omega) (by simp only [List.length_cons]; omega)
    unfold keepI
    rw [ih, h o (by omega) (by simp)]
theorem keepI_all : ∀ (l : List Nat) (o : Nat), keepI (fun _ => true) o l = l
  | [], _ => rfl
  | x :: l, o => by
    unfold keepI
    rw [if_pos rfl, keepI_all l]
theorem keepI_dl : ∀ (l : List Nat) (o : Nat), keepI (fun i => decide (i + 1 ≠ o + l.length)) o l = l.dropLast
  | [], _ => rfl
  | [x], o => by simp [keepI]
  | x :: y :: l, o => by
    have ih := keepI_dl (y :: l) (o + 1)
    unfold keepI
    rw [if_pos (by simp), List.dropLast_cons₂, ← ih]
    congr 1
    refine keepI_congr _ _ fun i h1 h2 => ?_
    simp only [List.length_cons]
    congr 2
    omega
theorem keepI_tl (l : List Nat) (o : Nat) : keepI (fun i => decide (i ≠ o)) o l = l.drop 1 := by
  cases l with
  | nil => rfl
  | cons x l =>
    unfold keepI
    rw [if_neg (by simp), keepI_congr (q' := fun _ => true) l (o + 1) (fun i h1 _ => by simp; omega), keepI_all]
    rfl
/-- backspace, nothing merged yet -/
def bsR : List (List Nat) → List (List Nat)
  | [] => []
  | [s] => [s]
  | s :: t :: r => s.dropLast :: bsR (t :: r)
theorem sums_gt {r : List (List Nat)} {a c : Nat} (h : MidOk r) (hc : c ∈ sums a r) : a < c ∧ c ≤ a + r.flatten.length := by
  have := (sums_mid r a h).le c hc
  omega
theorem MidOk.tail {t u : List Nat} {r : List (List Nat)} (h : MidOk (t :: u :: r)) : MidOk (u :: r) := h.2
theorem MidOk.head {t u : List Nat} {r : List (List Nat)} (h : MidOk (t :: u :: r)) : t ≠ [] := h.1
theorem keep_bs : ∀ (r : List (List Nat)) (s : List Nat) (o : Nat), MidOk r → keepI (fun i => !decide (i + 1 ∈ sums o (s :: r))) o (s :: r).flatten = (bsR (s :: r)).flatten
  | [], s, o, _ => by
    show keepI (fun i => !decide (i + 1 ∈ ([] : List Nat))) o (s ++ []) = s ++ []
    rw [keepI_congr (q' := fun _ => true) _ _ (fun i _ _ => by simp), keepI_all]
  | t :: r, s, o, h => by
    have ih : keepI (fun i => !decide (i + 1 ∈ sums (o + s.length) (t :: r))) (o + s.length) (t :: r).flatten = (bsR (t :: r)).flatten := by
      cases r with
      | nil => exact keep_bs [] t (o + s.length) (by trivial)
      | cons u r => exact keep_bs (u :: r) t (o + s.length) h.tail
    have e : sums o (s :: t :: r) = (o + s.length) :: sums (o + s.length) (t :: r) := rfl
    rw [e, List.flatten_cons, keepI_app]
    show _ = s.dropLast ++ (bsR (t :: r)).flatten
    rw [← ih]
    congr 1
    · rw [← keepI_dl s o]
      refine keepI_congr _ _ fun i h1 h2 => ?_
      have hn : i + 1 ∉ sums (o + s.length) (t :: r) := fun hm => by
        have := sums_gt h hm
        omega
      by_cases hi : i + 1 = o + s.length <;> simp [hi, hn]
    · refine keepI_congr _ _ fun i h1 h2 => ?_
      have hi : i + 1 ≠ o + s.length := by omega
      simp [hi]
theorem keep_del : ∀ (r : List (List Nat)) (t : List Nat) (o : Nat), MidOk (t :: r) → keepI (fun i => !decide (i ∈ o :: sums o (t :: r))) o (t :: r).flatten = ((t :: r).map (List.drop 1)).flatten
  | [], t, o, _ => by
    show keepI (fun i => !decide (i ∈ [o])) o (t ++ []) = t.drop 1 ++ []
    rw [List.append_nil, List.append_nil, ← keepI_tl t o]
    refine keepI_congr _ _ fun i _ _ => ?_
    by_cases hi : i = o <;> simp [hi]
  | u :: r, t, o, h => by
    have ih := keep_del r u (o + t.length) h.tail
    have hl : 0 < t.length := List.length_pos_iff.mpr h.head
    have e : sums o (t :: u :: r) = (o + t.length) :: sums (o + t.length) (u :: r) := rfl
    have e2 : (t :: u :: r).flatten = t ++ (u :: r).flatten := rfl
    have e3 : ((t :: u :: r).map (List.drop 1)).flatten = t.drop 1 ++ ((u :: r).map (List.drop 1)).flatten := rfl
    rw [e, e2, keepI_app, e3, ← ih]
    congr 1
    · rw [← keepI_tl t o]
      refine keepI_congr _ _ fun i h1 h2 => ?_
      have hn : i ∉ sums (o + t.length) (u :: r) := fun hm => by
        have := sums_gt h.tail hm
        omega
      have h3 : i ≠ o + t.length := by omega
      by_cases hi : i = o <;> simp [hi, hn, h3]
    · refine keepI_congr _ _ fun i h1 h2 => ?_
      have hi : i ≠ o := by omega
      simp [hi]
theorem keep_del0 {s t : List Nat} {r : List (List Nat)} (h : MidOk (t :: r)) : keepI (fun i => !decide (i ∈ sums 0 (s :: t :: r))) 0 (s :: t :: r).flatten = s ++ ((t :: r).map (List.drop 1)).flatten := by
  have e : sums 0 (s :: t :: r) = s.length :: sums s.length (t :: r) := by
    show (0 + s.length) :: sums (0 + s.length) (t :: r) = _
    rw [Nat.zero_add]
  have e2 : (s :: t :: r).flatten = s ++ (t :: r).flatten := rfl
  rw [e, e2, keepI_app, Nat.zero_add, keep_del r t s.length h]
  congr 1
  refine Eq.trans (keepI_congr (q' := fun _ => true) _ _ fun i h1 h2 => ?_) (keepI_all s 0)
  have hn : i ∉ sums s.length (t :: r) := fun hm => by
    have := sums_gt h hm
    omega
  have : i ≠ s.length := by omega
  simp [hn, this]
/-! ### the places behind a removal -/
def sumsZ (a : Int) : List (List Nat) → List Int
  | [] => []
  | [_] => []
  | s :: t :: r => (a + s.length) :: sumsZ (a + s.length) (t :: r)
theorem sumsZ_nat : ∀ (ss : List (List Nat)) (a : Nat), sumsZ (a : Int) ss = (sums a ss).map Int.ofNat
  | [], _ => rfl
  | [_], _ => rfl
  | s :: t :: r, a => by
    have ih := sumsZ_nat (t :: r) (a + s.length)
    show ((a : Int) + s.length) :: sumsZ ((a : Int) + s.length) (t :: r) = Int.ofNat (a + s.length) :: _
    have e : ((a + s.length : Nat) : Int) = (a : Int) + s.length := by omega
    rw [← e, ih]
    rfl
theorem bsR_ne {t : List Nat} {r : List (List Nat)} : ∃ u v, bsR (t :: r) = u :: v := by
  cases r <;> exact ⟨_, _, rfl⟩
theorem sumsZ_cons (a : Int) (s : List Nat) {L : List (List Nat)} (h : ∃ u v, L = u :: v) : sumsZ a (s :: L) = (a + s.length) :: sumsZ (a + s.length) L := by
  obtain ⟨u, v, rfl⟩ := h
  rfl
theorem cnt_bs : ∀ (r : List (List Nat)) (s : List Nat) (o k : Nat), s ≠ [] → MidOk r → (sums o (s :: r)).map (fun (c : Nat) => (c : Int) - ((k + (((sums o (s :: r)).map (· - 1)).filter (fun g => decide (g < c))).length : Nat) : Int)) = sumsZ ((o : Int) - k) (bsR (s :: r))
  | [], s, o, k, _, _ => rfl
  | t :: r, s, o, k, hs, h => by
    have hl : 0 < s.length := List.length_pos_iff.mpr hs
    have e : sums o (s :: t :: r) = (o + s.length) :: sums (o + s.length) (t :: r) := rfl
    have gt : ∀ c ∈ sums (o + s.length) (t :: r), o + s.length < c := fun c hc => (sums_gt h hc).1
    rw [e, List.map_cons]
    show _ = sumsZ ((o : Int) - k) (s.dropLast :: bsR (t :: r))
    rw [sumsZ_cons _ _ bsR_ne]
    have e0 : ((List.map (· - 1) ((o + s.length) :: sums (o + s.length) (t :: r))).filter (fun g => decide (g < o + s.length))) = [o + s.length - 1] := by
      rw [List.map_cons, List.filter_cons_of_pos (by simp; omega), List.filter_eq_nil_iff.mpr]
      intro g hg
      obtain ⟨c, hc, rfl⟩ := List.mem_map.mp hg
      have := gt c hc
      simp
      omega
    have eh : ((o : Int) - k) + (s.dropLast.length : Nat) = ((o + s.length : Nat) : Int) - ((k + 1 : Nat) : Int) := by
      rw [List.length_dropLast]
      omega
    rw [e0]
    congr 1
    · simp
      omega
    · rw [eh]
      have step : (sums (o + s.length) (t :: r)).map (fun (c : Nat) => (c : Int) - ((k + (((((o + s.length) :: sums (o + s.length) (t :: r)).map (· - 1))).filter (fun g => decide (g < c))).length : Nat) : Int)) =
          (sums (o + s.length) (t :: r)).map (fun (c : Nat) => (c : Int) - (((k + 1) + (((sums (o + s.length) (t :: r)).map (· - 1)).filter (fun g => decide (g < c))).length : Nat) : Int)) := by
        refine List.map_congr_left fun c hc => ?_
        have := gt c hc
        rw [List.map_cons, List.filter_cons_of_pos (by simp; omega), List.length_cons]
        congr 2
        omega
      rw [step]
      cases r with
      | nil => rfl
      | cons u r =>
        exact cnt_bs (u :: r) t (o + s.length) (k + 1) h.head h.tail
theorem cnt_del : ∀ (r : List (List Nat)) (s : List Nat) (o k : Nat), MidOk r → (sums o (s :: r)).map (fun (c : Nat) => (c : Int) - ((k + ((sums o (s :: r)).filter (fun g => decide (g < c))).length : Nat) : Int)) = sumsZ ((o : Int) - k) (s :: r.map (List.drop 1))
  | [], s, o, k, _ => rfl
  | t :: r, s, o, k, h => by
    have e : sums o (s :: t :: r) = (o + s.length) :: sums (o + s.length) (t :: r) := rfl
    have gt : ∀ c ∈ sums (o + s.length) (t :: r), o + s.length < c := fun c hc => (sums_gt h hc).1
    rw [e, List.map_cons, List.map_cons (l := r), sumsZ_cons _ _ ⟨_, _, rfl⟩]
    have e0 : (((o + s.length) :: sums (o + s.length) (t :: r)).filter (fun g => decide (g < o + s.length))) = [] := by
      rw [List.filter_eq_nil_iff]
      intro g hg
      rcases List.mem_cons.mp hg with rfl | hg
      · simp
      · have := gt g hg
        simp
        omega
    rw [e0]
    congr 1
    · simp
      omega
    · have step : (sums (o + s.length) (t :: r)).map (fun (c : Nat) => (c : Int) - ((k + ((((o + s.length) :: sums (o + s.length) (t :: r))).filter (fun g => decide (g < c))).length : Nat) : Int)) =
          (sums (o + s.length) (t :: r)).map (fun (c : Nat) => (c : Int) - (((k + 1) + ((sums (o + s.length) (t :: r)).filter (fun g => decide (g < c))).length : Nat) : Int)) := by
        refine List.map_congr_left fun c hc => ?_
        have := gt c hc
        rw [List.filter_cons_of_pos (by simpa using this), List.length_cons]
        congr 2
        omega
      rw [step]
      cases r with
      | nil => rfl
      | cons u r =>
        have ih := cnt_del (u :: r) t (o + s.length) (k + 1) h.tail
        rw [ih]
        have hl : 0 < t.length := List.length_pos_iff.mpr h.head
        rw [List.map_cons, sumsZ_cons _ _ ⟨_, _, rfl⟩, sumsZ_cons _ _ ⟨_, _, rfl⟩]
        have eq1 : ((o + s.length : Nat) : Int) - ((k + 1 : Nat) : Int) + (t.length : Nat) = (o : Int) - k + (s.length : Nat) + ((t.drop 1).length : Nat) := by
          rw [List.length_drop]
          omega
        rw [eq1]
/-- what is counted for backspace: the first bar may stand at the beginning -/
theorem later_bs {s t : List Nat} {r : List (List Nat)} (h : MidOk (t :: r)) : (sums 0 (s :: t :: r)).map (fun (c : Nat) => (c : Int) - (((((sums 0 (s :: t :: r)).filter (fun c => decide (0 < c))).map (· - 1)).filter (fun g => decide (g < c))).length : Nat)) = (sums 0 (bsR (s :: t :: r))).map Int.ofNat := by
  have e0 : ((0 : Nat) : Int) = 0 := rfl
  by_cases hs : s = []
  · subst hs
    have e : sums 0 ([] :: t :: r) = 0 :: sums 0 (t :: r) := rfl
    have gt : ∀ c ∈ sums 0 (t :: r), 0 < c := fun c hc => (sums_gt h hc).1
    have ef : (0 :: sums 0 (t :: r)).filter (fun c => decide (0 < c)) = sums 0 (t :: r) := by
      rw [List.filter_cons_of_neg (by simp), List.filter_eq_self.mpr]
      intro c hc
      simpa using gt c hc
    have e2 : sums 0 (bsR ([] :: t :: r)) = 0 :: sums 0 (bsR (t :: r)) := by
      show sums 0 (([] : List Nat).dropLast :: bsR (t :: r)) = _
      obtain ⟨u, v, huv⟩ := bsR_ne (t := t) (r := r)
      rw [huv]
      rfl
    rw [e, ef, e2, List.map_cons, List.map_cons]
    congr 1
    · have : (((sums 0 (t :: r)).map (· - 1)).filter (fun g => decide (g < 0))) = [] := by
        rw [List.filter_eq_nil_iff]
        intro g _
        simp
      rw [this]
      rfl
    · cases r with
      | nil => rfl
      | cons u r =>
        have := cnt_bs (u :: r) t 0 0 h.head h.tail
        rw [← sumsZ_nat, e0]
        rw [e0] at this
        simpa using this
  · have hl : 0 < s.length := List.length_pos_iff.mpr hs
    have ef : (sums 0 (s :: t :: r)).filter (fun c => decide (0 < c)) = sums 0 (s :: t :: r) := by
      rw [List.filter_eq_self]
      intro c hc
      have e : sums 0 (s :: t :: r) = (0 + s.length) :: sums (0 + s.length) (t :: r) := rfl
      rw [e] at hc
      rcases List.mem_cons.mp hc with rfl | hc
      · simpa using hl
      · have := (sums_gt h hc).1
        simp
        omega
    have := cnt_bs (t :: r) s 0 0 hs h
    rw [ef, ← sumsZ_nat, e0]
    rw [e0] at this
    simpa using this
theorem later_del {s t : List Nat} {r : List (List Nat)} (h : MidOk (t :: r)) : (sums 0 (s :: t :: r)).map (fun (c : Nat) => (c : Int) - ((((sums 0 (s :: t :: r)).filter (fun c => decide (c < (s :: t :: r).flatten.length))).filter (fun g => decide (g < c))).length : Nat)) = (sums 0 (s :: (t :: r).map (List.drop 1))).map Int.ofNat := by
  have := cnt_del (t :: r) s 0 0 h
  rw [← sumsZ_nat]
  have e0 : ((0 : Nat) : Int) = 0 := rfl
  rw [e0] at this ⊢
  rw [Int.sub_self] at this
  rw [← this]
  refine List.map_congr_left fun c hc => ?_
  have hb : c ≤ (s :: t :: r).flatten.length := by
    have := ((SOk.mk' (s := s) h).asc).le c hc
    exact this.2
  rw [List.filter_filter, Nat.zero_add]
  congr 3
  refine List.filter_congr fun g _ => ?_
  by_cases hg : g < c
  · have : g < (s :: t :: r).flatten.length := by omega
    rw [decide_eq_true hg, decide_eq_true this]
    rfl
  · rw [decide_eq_false hg]
    rfl
/-! ### letters at all places -/
def insL (cs : List Nat) (k : Nat) : Nat → List Nat → List Nat
  | p, [] => if p ∈ cs then [k] else []
  | p, x :: l => if p ∈ cs then k :: x :: insL cs k (p + 1) l else x :: insL cs k (p + 1) l
def insC (cs : List Nat) : Nat → Nat → List Nat → List Nat
  | p, q, [] => if p ∈ cs then [q + 1] else []
  | p, q, _ :: l => if p ∈ cs then (q + 1) :: insC cs (p + 1) (q + 2) l else insC cs (p + 1) (q + 1) l
theorem insL_skip {cs : List Nat} {k : Nat} : ∀ (s F : List Nat) (p : Nat), (∀ i, p ≤ i → i < p + s.length → i ∉ cs) → insL cs k p (s ++ F) = s ++ insL cs k (p + s.length) F
  | [], F, p, _ => rfl
  | x :: s, F, p, h => by
    have ih := insL_skip (cs := cs) (k := k) s F (p + 1) fun i h1 h2 => h i (by omega) (by simp only [List.length_cons]; omega)
    have e : p + 1 + s.length = p + (x :: s).length := by simp; omega
    rw [List.cons_append, List.cons_append, ← e, ← ih]
    show (if p ∈ cs then _ else _) = _
    rw [if_neg (h p (by omega) (by simp))]
theorem insC_skip {cs : List Nat} : ∀ (s F : List Nat) (p q : Nat), (∀ i, p ≤ i → i < p + s.length → i ∉ cs) → insC cs p q (s ++ F) = insC cs (p + s.length) (q + s.length) F
  | [], F, p, q, _ => rfl
  | x :: s, F, p, q, h => by
    have ih := insC_skip (cs := cs) s F (p + 1) (q + 1) fun i h1 h2 => h i (by omega) (by simp only [List.length_cons]; omega)
    have e : p + 1 + s.length = p + (x :: s).length := by simp; omega
    have e2 : q + 1 + s.length = q + (x :: s).length := by simp; omega
    rw [List.cons_append, ← e, ← e2, ← ih]
    show (if p ∈ cs then _ else _) = _
    rw [if_neg (h p (by omega) (by simp))]
theorem ins_mid {cs : List Nat} {k : Nat} : ∀ (r : List (List Nat)) (t : List Nat) (p q : Nat), MidOk (t :: r) → (∀ i, p ≤ i → (i ∈ cs ↔ i = p ∨ i ∈ sums p (t :: r))) →
    insL cs k p (t :: r).flatten = k :: (typeS k (t :: r)).flatten ∧ insC cs p q (t :: r).flatten = (q + 1) :: sums (q + 1) (typeS k (t :: r))
  | r, [], p, q, h, hc => by
    have hp : p ∈ cs := (hc p (Nat.le_refl _)).mpr (.inl rfl)
    cases r with
    | nil => exact ⟨by simp [insL, typeS, hp], by simp [insC, typeS, hp, sums]⟩
    | cons u r => exact absurd rfl h.head
  | r, x :: t, p, q, h, hc => by
    have hp : p ∈ cs := (hc p (Nat.le_refl _)).mpr (.inl rfl)
    cases r with
    | nil =>
      have sk : ∀ i, p + 1 ≤ i → i < p + 1 + t.length → i ∉ cs := fun i h1 h2 hm => by
        rcases (hc i (by omega)).mp hm with z | z
        · omega
        · cases z
      have last : p + 1 + t.length ∉ cs := fun hm => by
        rcases (hc _ (by omega)).mp hm with z | z
        · omega
        · cases z
      constructor
      · show (if p ∈ cs then k :: x :: insL cs k (p + 1) (t ++ []) else _) = k :: ((x :: t) ++ [])
        rw [if_pos hp, insL_skip t [] (p + 1) sk]
        simp [insL, last]
      · show (if p ∈ cs then (q + 1) :: insC cs (p + 1) (q + 2) (t ++ []) else _) = [q + 1]
        rw [if_pos hp, insC_skip t [] (p + 1) (q + 2) sk]
        simp [insC, last]
    | cons u r =>
      have e : sums p ((x :: t) :: u :: r) = (p + (x :: t).length) :: sums (p + (x :: t).length) (u :: r) := rfl
      have sk : ∀ i, p + 1 ≤ i → i < p + 1 + t.length → i ∉ cs := fun i h1 h2 hm => by
        rcases (hc i (by omega)).mp hm with z | z
        · omega
        · rw [e] at z
          rcases List.mem_cons.mp z with z | z
          · simp at z
            omega
          · have := sums_gt h.tail z
            simp at this
            omega
      obtain ⟨i1, i2⟩ := ins_mid (cs := cs) (k := k) r u (p + (x :: t).length) (q + 2 + t.length) h.tail fun i hi => by
        rw [hc i (by omega), e, List.mem_cons]
        have : i ≠ p := by simp only [List.length_cons] at hi; omega
        simp [this]
      have ep : p + 1 + t.length = p + (x :: t).length := by simp; omega
      constructor
      · show (if p ∈ cs then k :: x :: insL cs k (p + 1) (t ++ (u :: r).flatten) else _) = k :: (((x :: t) ++ [k]) ++ (typeS k (u :: r)).flatten)
        rw [if_pos hp, insL_skip t _ (p + 1) sk, ep, i1]
        simp
      · show (if p ∈ cs then (q + 1) :: insC cs (p + 1) (q + 2) (t ++ (u :: r).flatten) else _) = (q + 1) :: sums (q + 1) (((x :: t) ++ [k]) :: typeS k (u :: r))
        rw [if_pos hp, insC_skip t _ (p + 1) (q + 2) sk, ep, i2, sums_cons _ _ typeS_ne]
        have : q + 2 + t.length + 1 = q + 1 + ((x :: t) ++ [k]).length := by simp; omega
        rw [this]
theorem ins_all {s t : List Nat} {r : List (List Nat)} {k : Nat} (h : MidOk (t :: r)) : insL (sums 0 (s :: t :: r)) k 0 (s :: t :: r).flatten = (typeS k (s :: t :: r)).flatten ∧ insC (sums 0 (s :: t :: r)) 0 0 (s :: t :: r).flatten = sums 0 (typeS k (s :: t :: r)) := by
  have e : sums 0 (s :: t :: r) = s.length :: sums s.length (t :: r) := by
    show (0 + s.length) :: sums (0 + s.length) (t :: r) = _
    rw [Nat.zero_add]
  have e2 : (s :: t :: r).flatten = s ++ (t :: r).flatten := rfl
  have sk : ∀ i, 0 ≤ i → i < 0 + s.length → i ∉ sums 0 (s :: t :: r) := fun i _ h2 hm => by
    rw [e] at hm
    rcases List.mem_cons.mp hm with z | z
    · omega
    · have := sums_gt h z
      omega
  obtain ⟨i1, i2⟩ := ins_mid (cs := sums 0 (s :: t :: r)) (k := k) r t s.length s.length h fun i hi => by
    rw [e, List.mem_cons]
  rw [e2, insL_skip s _ 0 sk, insC_skip s _ 0 0 sk, Nat.zero_add, i1, i2]
  constructor
  · show _ = (s ++ [k]) ++ (typeS k (t :: r)).flatten
    simp
  · show _ = sums 0 ((s ++ [k]) :: typeS k (t :: r))
    rw [sums_cons _ _ typeS_ne]
    simp
/-! ### a set, sorted -/
theorem dedupe_mem : ∀ (l : List Nat) (c : Nat), c ∈ dedupe l ↔ c ∈ l
  | [], c => Iff.rfl
  | [a], c => Iff.rfl
  | a :: b :: l, c => by
    have ih := dedupe_mem (b :: l) c
    unfold dedupe
    by_cases h : a = b
    · subst h
      rw [if_pos rfl, ih]
      simp
    · rw [if_neg h, List.mem_cons, ih, List.mem_cons (l := b :: l)]
theorem dedupe_asc : ∀ (l : List Nat), l.Pairwise (· ≤ ·) → (dedupe l).Pairwise (· < ·)
  | [], _ => .nil
  | [a], _ => by simp [dedupe]
  | a :: b :: l, h => by
    have h2 := List.pairwise_cons.mp h
    have ih := dedupe_asc (b :: l) h2.2
    unfold dedupe
    by_cases e : a = b
    · rw [if_pos e]
      exact ih
    · rw [if_neg e]
      refine List.pairwise_cons.mpr ⟨fun c hc => ?_, ih⟩
      have hc' := (dedupe_mem _ _).mp hc
      have h3 := h2.1 c hc'
      have h4 := h2.1 b (by simp)
      have h5 : b ≤ c := by
        rcases List.mem_cons.mp hc' with rfl | hc'
        · exact Nat.le_refl _
        · exact (List.pairwise_cons.mp h2.2).1 c hc'
      omega
theorem sorted_uniq : ∀ (l m : List Int), l.Pairwise (· < ·) → m.Pairwise (· < ·) → (∀ k, k ∈ l ↔ k ∈ m) → l = m
  | [], [], _, _, _ => rfl
  | [], b :: m, _, _, h => absurd ((h b).mpr (by simp)) (by simp)
  | a :: l, [], _, _, h => absurd ((h a).mp (by simp)) (by simp)
  | a :: l, b :: m, hl, hm, h => by
    have l2 := List.pairwise_cons.mp hl
    have m2 := List.pairwise_cons.mp hm
    have e : a = b := by
      have h1 := (h a).mp (by simp)
      have h2 := (h b).mpr (by simp)
      rcases List.mem_cons.mp h1 with h1 | h1
      · exact h1
      · rcases List.mem_cons.mp h2 with h2 | h2
        · exact h2.symm
        · have := m2.1 a h1
          have := l2.1 b h2
          omega
    subst e
    rw [sorted_uniq l m l2.2 m2.2 fun k => ?_]
    have hk := h k
    simp only [List.mem_cons] at hk
    constructor
    · intro hm'
      rcases hk.mp (.inr hm') with z | z
      · have := l2.1 k hm'
        omega
      · exact z
    · intro hm'
      rcases hk.mpr (.inr hm') with z | z
      · have := m2.1 k hm'
        omega
      · exact z
theorem set_sorted {l : List Nat} (hl : l.Pairwise (· ≤ ·)) {ms : List Int} (h1 : ms.Pairwise (· < ·)) (h2 : ∀ k, k ∈ ms ↔ k ∈ l.map Int.ofNat) : ms = (dedupe l).map Int.ofNat := by
  refine sorted_uniq ms _ h1 ?_ fun k => ?_
  · exact List.pairwise_map.mpr ((dedupe_asc l hl).imp fun h => Int.ofNat_lt.mpr h)
  · rw [h2]
    simp only [List.mem_map, dedupe_mem]
theorem sums_le : ∀ (ss : List (List Nat)) (a : Nat), (sums a ss).Pairwise (· ≤ ·) ∧ ∀ c ∈ sums a ss, a ≤ c
  | [], _ => ⟨.nil, by simp [sums]⟩
  | [_], _ => ⟨.nil, by simp [sums]⟩
  | s :: t :: r, a => by
    obtain ⟨h1, h2⟩ := sums_le (t :: r) (a + s.length)
    have e : sums a (s :: t :: r) = (a + s.length) :: sums (a + s.length) (t :: r) := rfl
    rw [e]
    refine ⟨List.pairwise_cons.mpr ⟨h2, h1⟩, fun c hc => ?_⟩
    rcases List.mem_cons.mp hc with rfl | hc
    · omega
    · have := h2 c hc
      omega
theorem bsR_form (s : List Nat) (m : List (List Nat)) (t : List Nat) : bsR (s :: (m ++ [t])) = s.dropLast :: (m.map List.dropLast ++ [t]) := by
  induction m generalizing s with
  | nil => rfl
  | cons u m ih =>
    have e : s :: (u :: m ++ [t]) = s :: u :: (m ++ [t]) := rfl
    rw [e]
    show s.dropLast :: bsR (u :: (m ++ [t])) = _
    rw [ih u]
    rfl
/-- .. so many places, merged -/
theorem bsR_norm {ss : List (List Nat)} (h : SOk ss) : norm (bsR ss) = stepS ss 45 ∧ 2 ≤ (bsR ss).length := by
  obtain ⟨s, m, t, rfl, _⟩ := h
  rw [bsR_form, norm_form]
  refine ⟨?_, by simp⟩
  unfold stepS
  rw [if_pos rfl, bsS_form]
theorem delR_norm {s t : List Nat} {r : List (List Nat)} : norm (s :: (t :: r).map (List.drop 1)) = stepS (s :: t :: r) 35 := by
  obtain ⟨m, u, e⟩ : ∃ m u, t :: r = m ++ [u] := ⟨(t :: r).dropLast, (t :: r).getLast (by simp), by rw [List.dropLast_concat_getLast]⟩
  rw [e, List.map_append]
  show norm (s :: (m.map (List.drop 1) ++ [u.drop 1])) = _
  rw [norm_form]
  unfold stepS
  rw [if_neg (by decide), if_neg (by decide), if_pos rfl, del_form]
end Dl

/-! plain laws, part 9c: the law's rows -/
namespace Dl
open PySem
open PySem.Spec
open PyProof.Rows
open L2
section
variable {st st0 : Sto} {k : KS} {x : XS0} {n m : Nat}
def rowD (l : List Nat) : D := .list (l.map sign)
theorem fit_row {l : List Nat} (hn : l.length ≤ 20000) (hb : ∀ c ∈ l, c < 0x110000) : Fit 1 (20000 * 2) (rowD l) := fit_list (h := 0) (w := 1) (n := 20000) (fun d hd => by
  obtain ⟨c, hc, rfl⟩ := List.mem_map.mp hd
  exact (fit_str (l := [c]) (by simpa using hb c hc)).mono (Nat.le_refl _) (by simp)) (by simpa using hn)
theorem leftStep_len (mv : Bool) (f : List Nat) (c : Nat) : (leftStep mv f c).length ≤ f.length + 1 := by
  unfold leftStep
  split
  · rename_i h
    have hl : f.length ≥ 1 := List.length_pos_iff.mpr h.2.1
    have hg : f.getLast?.toList.length ≤ 1 := by cases f.getLast? <;> simp
    dsimp only
    split <;> split <;> simp <;> omega
  · split <;> simp
theorem leftStep_mem (mv : Bool) (f : List Nat) (c : Nat) : ∀ d ∈ leftStep mv f c, d ∈ f ∨ d = c ∨ d = 124 := by
  intro d hd
  unfold leftStep at hd
  have hdl : ∀ d ∈ f.dropLast, d ∈ f := fun d h => List.dropLast_subset _ h
  have hgl : ∀ d ∈ f.getLast?.toList, d ∈ f := fun d h => by
    cases hf : f with
    | nil =>
      rw [hf] at h
      cases h
    | cons a r =>
      rw [← hf]
      rw [List.getLast?_eq_getLast (by rw [hf]; simp)] at h
      rw [List.mem_singleton.mp h]
      exact List.getLast_mem _
  split at hd
  · dsimp only at hd
    split at hd
    · rcases List.mem_append.mp hd with hd | hd
      · split at hd
        · rcases List.mem_append.mp hd with hd | hd
          · exact .inl (hdl d hd)
          · exact .inr (.inr (List.mem_singleton.mp hd))
        · exact .inl (hdl d hd)
      · exact .inl (hgl d hd)
    · split at hd
      · rcases List.mem_append.mp hd with hd | hd
        · exact .inl (hdl d hd)
        · exact .inr (.inr (List.mem_singleton.mp hd))
      · exact .inl (hdl d hd)
  · split at hd
    · rcases List.mem_append.mp hd with hd | hd
      · exact .inl hd
      · exact .inr (.inl (List.mem_singleton.mp hd))
    · exact .inl hd
theorem e_lstG {sl : List (Option R)} {st g : Sto} {F : Option (List D)} {T : List D} {K : List D → Prop} : lstAt ⟨sl, st ++ F :: (g ++ [some T])⟩ (st.length + (g.length + 1)) K = K T := by
  rw [e_lstNew1 (ds := []), e_lstS, e_lstNew]
theorem g_neNil {xs : List D} {kb : Bool → Prop} {h w : Nat} (f : Fit h w (.list xs)) (hh : h ≤ 64) (q : kb (!xs.isEmpty)) : gNe (.list xs) (.list []) kb := g_eqNil (kb := fun b => kb (!b)) f hh q
theorem last_sign {f : List Nat} (h : f ≠ []) : (f.map sign).getLast? = some (.str (S [f.getLast h])) := by
  rw [List.getLast?_map, List.getLast?_eq_getLast h]
  rfl
theorem empty_sign {f : List Nat} : (f.map sign).isEmpty = f.isEmpty := by cases f <;> rfl
theorem r_law_left {row : List Nat} {mv : Bool} (hn : row.length ≤ 20000) (hb : ∀ c ∈ row, c < 0x110000) (h : k (.d (rowD (leftR row mv))) st) : F_law_left [.d (rowD row), .d (.bool mv)] st k x := by
  have h4 : 4 ≤ sizeLine := sz (by decide)
  simp [F_law_left, e_run, w_law_left, rowD]
  refine loopF_fold (α := Nat) (σ := List Nat) sign (leftStep mv) (fun l f => f.length + l.length ≤ 20000 ∧ (∀ c ∈ f, c < 0x110000) ∧ ∀ c ∈ l, c < 0x110000)
    (fun f r => ∃ (y3 : Option D) (y4 : Option R) (g : Sto), r = ⟨[some (.d (rowD row)), some (.d (.bool mv)), some (.l st.length), y3.map R.d, y4], st ++ some (f.map sign) :: g⟩) ?_ ?_ row [] _ ⟨by simpa using hn, by simp, hb⟩ ⟨none, none, [], rfl⟩ ?_
  · rintro c l f r K ⟨g1, g2, g3⟩ ⟨y3, y4, g, rfl⟩ hK
    simp only [List.length_cons] at g1
    have ff : Fit 1 (20000 * 2) (.list (f.map sign)) := fit_row (by omega) g2
    have hlen := leftStep_len mv f c
    have go : ∀ (X : List D) (y4 : Option R) (g' : Sto), X = (leftStep mv f c).map sign → K ⟨[some (.d (rowD row)), some (.d (.bool mv)), some (.l st.length), some (.d (.str (S [c]))), y4], st ++ some X :: g'⟩ := by
      rintro X y4 g' rfl
      exact hK _ ⟨some (.str (S [c])), y4, g', rfl⟩
    have fd : Fit 1 (20000 * 2) (.list ((f.dropLast).map sign)) := fit_row (by simp; omega) fun d hd => g2 d (List.dropLast_subset _ hd)
    simp [sign_S, g_eqS, g_neS]
    by_cases hc : c = 124
    · subst hc
      simp
      refine g_neNil ff (by decide) ?_
      rw [empty_sign]
      by_cases hf : f = []
      · subst hf
        simp
        refine g_eqNil ff (by decide) ?_
        simp [uAppend, sizeLine_eq, e_lstG]
        cases mv
        · simp
          exact go _ _ _ (by simp [leftStep, sign_S])
        · simp [uExtend, sizeLine_eq]
          exact go _ _ _ (by simp [leftStep, sign_S])
      · have he : f.isEmpty = false := by
          cases f with
          | nil => exact absurd rfl hf
          | cons a b => rfl
        have hgl : f.getLast? = some (f.getLast hf) := List.getLast?_eq_getLast hf
        rw [he]
        simp [g_ixL, last_sign hf, g_neS]
        by_cases hz : f.getLast hf = 124
        · simp [hz]
          refine g_eqNil ff (by decide) ?_
          rw [empty_sign, he]
          simp [e_lstG]
          cases mv
          · simp
            exact go _ _ _ (by simp [leftStep, hf, hgl, hz])
          · simp [uExtend, sizeLine_eq]
            refine ⟨by omega, ?_⟩
            exact go _ _ _ (by simp [leftStep, hf, hgl, hz])
        · have e1 : (f.map sign).dropLast = f.dropLast.map sign := by rw [List.map_dropLast]
          have ePop : ∀ kk, uPop (f.map sign) [] kk = kk (.str (S [f.getLast hf])) (f.dropLast.map sign) := fun kk => by
            show (match (f.map sign).getLast? with
              | some d => kk d (f.map sign).dropLast
              | none => False) = _
            rw [last_sign hf, e1]
          have hz' : (!decide ([f.getLast hf] = [124])) = true := by simp [hz]
          simp only [hz, decide_false, Bool.not_false, if_true]
          rw [e_lstG, ePop]
          simp only [e_lstG, uAppend, List.length_nil, List.nil_append]
          refine ⟨szlt (by decide), ?_⟩
          have eL : leftStep mv f 124 = if mv = true then (if f.dropLast = [] ∨ f.dropLast.getLast? ≠ some 124 then f.dropLast ++ [124] else f.dropLast) ++ [f.getLast hf] else (if f.dropLast = [] ∨ f.dropLast.getLast? ≠ some 124 then f.dropLast ++ [124] else f.dropLast) := by
            unfold leftStep
            rw [if_pos ⟨rfl, hf, by rw [hgl]; simp [hz]⟩, hgl]
            cases mv <;> rfl
          have hql : f.dropLast.length ≤ f.length := by simp
          rw [eL] at go
          clear ePop hK hz' e1 hlen eL
          generalize f.dropLast = q at go fd hql ⊢
          generalize f.getLast hf = z at go ⊢
          refine g_eqNil fd (by decide) ?_
          rw [empty_sign]
          by_cases hd : q = []
          · subst hd
            cases mv
            · simp
              refine ⟨szlt (by decide), ?_⟩
              exact go _ _ _ rfl
            · simp [uExtend, sizeLine_eq]
              exact go _ _ _ rfl
          · have he2 : q.isEmpty = false := by
              cases q with
              | nil => exact absurd rfl hd
              | cons a b => rfl
            have hgl2 : q.getLast? = some (q.getLast hd) := List.getLast?_eq_getLast hd
            rw [he2]
            simp [g_ixL, last_sign hd, g_neS, sizeLine_eq]
            by_cases hz2 : q.getLast hd = 124
            · have e0 : (if q = [] ∨ q.getLast? ≠ some 124 then q ++ [124] else q) = q := if_neg (by rw [hgl2]; simp [hd, hz2])
              rw [e0] at go
              simp [hz2]
              cases mv
              · simp
                exact go _ _ _ rfl
              · simp [uExtend, sizeLine_eq]
                refine ⟨by omega, ?_⟩
                exact go _ _ _ (by simp [sign_S])
            · have e0 : (if q = [] ∨ q.getLast? ≠ some 124 then q ++ [124] else q) = q ++ [124] := if_pos (.inr (by rw [hgl2]; simp [hz2]))
              rw [e0] at go
              simp [hz2]
              refine ⟨by omega, ?_⟩
              cases mv
              · simp
                exact go _ _ _ (by simp [sign_S])
              · simp [uExtend, sizeLine_eq]
                refine ⟨by omega, ?_⟩
                exact go _ _ _ (by simp [sign_S])
    · have e : leftStep mv f c = f ++ [c] := by simp [leftStep, hc]
      simp [hc, uAppend, sizeLine_eq, e_lstG]
      refine ⟨by omega, ?_⟩
      cases mv
      · simp
        exact go _ _ _ (by simp [e, sign_S])
      · simp [uExtend, sizeLine_eq]
        refine ⟨by omega, ?_⟩
        exact go _ _ _ (by simp [e, sign_S])
  · rintro c l f ⟨g1, g2, g3⟩
    simp only [List.length_cons] at g1
    have hlen := leftStep_len mv f c
    refine ⟨by omega, fun d hd => ?_, fun d hd => g3 d (List.mem_cons_of_mem _ hd)⟩
    rcases leftStep_mem mv f c d hd with hd | rfl | rfl
    · exact g2 d hd
    · exact g3 d (by simp)
    · decide
  · rintro r ⟨y3, y4, g, rfl⟩
    simp
    exact h
theorem leftR_len {row : List Nat} {mv : Bool} : (leftR row mv).length ≤ row.length := by
  have go : ∀ (row f : List Nat), (row.foldl (leftStep mv) f).length ≤ f.length + row.length := by
    intro row
    induction row with
    | nil => intro f; simp
    | cons c row ih =>
      intro f
      have := ih (leftStep mv f c)
      have := leftStep_len mv f c
      rw [List.foldl_cons, List.length_cons]
      omega
  simpa [leftR] using go row []
theorem r_law_one {row : List Nat} {c : Nat} (hn : row.length ≤ 9000) (hb : ∀ c ∈ row, c < 0x110000) (h : k (.d (rowD (oneR row c))) st) : F_law_one [.d (rowD row), .d (.str (S [c]))] st k x := by
  simp [F_law_one, e_run, w_law_one]
  by_cases h1 : c = 45 ∨ c = 60
  · have e : oneR row c = leftR row (c == 60) := if_pos h1
    rw [e] at h
    simp [h1, g_eqS]
    have e2 : decide (c = 60) = (c == 60) := by simp [BEq.beq]
    rw [e2]
    refine r_law_left (by omega) hb ?_
    simpa [rowD] using h
  · by_cases h2 : c = 35 ∨ c = 62
    · have e : oneR row c = (leftR row.reverse (c == 62)).reverse := by
        unfold oneR
        rw [if_neg h1, if_pos h2]
      rw [e] at h
      have e2 : decide (c = 62) = (c == 62) := by simp [BEq.beq]
      simp [h1, h2, g_eqS, rowD]
      rw [e2, ← List.map_reverse]
      refine r_law_left (row := row.reverse) (by simp; omega) (fun d hd => hb d (by simpa using hd)) ?_
      simp [rowD]
      simpa [rowD] using h
    · have e : oneR row c = typeR row c := by
        unfold oneR
        rw [if_neg h1, if_neg h2]
      rw [e] at h
      simp [h1, h2, rowD]
      refine loopF_fold (α := Nat) (σ := List Nat) sign (fun f d => f ++ (if d = 124 then [c, 124] else [d])) (fun l f => f.length + 2 * l.length ≤ 20000)
        (fun f r => ∃ y3 : Option D, r = ⟨[some (.d (rowD row)), some (.d (.str (S [c]))), some (.l st.length), y3.map R.d], st ++ [some (f.map sign)]⟩) ?_ ?_ row [] _ (by simp; omega) ⟨none, rfl⟩ ?_
      · rintro d l f r K g1 ⟨y3, rfl⟩ hK
        simp only [List.length_cons] at g1
        simp [sign_S, g_eqS]
        by_cases hd : d = 124
        · subst hd
          simp [uAppend, sizeLine_eq]
          exact ⟨by omega, by omega, hK _ ⟨some (.str (S [124])), by simp [sign_S]⟩⟩
        · simp [hd, uAppend, sizeLine_eq]
          exact ⟨by omega, hK _ ⟨some (.str (S [d])), by simp [hd, sign_S]⟩⟩
      · rintro d l f g1
        simp only [List.length_cons] at g1
        split <;> simp <;> omega
      · rintro r ⟨y3, rfl⟩
        have ef : ∀ (l f : List Nat), l.foldl (fun f d => f ++ (if d = 124 then [c, 124] else [d])) f = f ++ typeR l c := by
          intro l
          induction l with
          | nil => intro f; simp [typeR]
          | cons d l ih =>
            intro f
            rw [List.foldl_cons, ih]
            unfold typeR
            rw [List.flatMap_cons, List.append_assoc]
        rw [ef, List.nil_append]
        simp
        exact h
end
end Dl

/-! plain law k02 -/
namespace Dl
open PySem
open PySem.Spec
open PyProof.Rows
open L2
/-! ### a text cut at cursors -/
def cutS (a : Nat) (t : List Nat) : List Nat → List (List Nat)
  | [] => [t]
  | c :: cs => t.take (c - a) :: cutS c (t.drop (c - a)) cs
theorem cutS_ne (a : Nat) (t cs : List Nat) : cutS a t cs ≠ [] := by cases cs <;> simp [cutS]
theorem cutS_flat : ∀ (cs : List Nat) (a : Nat) (t : List Nat), (cutS a t cs).flatten = t
  | [], a, t => by simp [cutS]
  | c :: cs, a, t => by
    show t.take (c - a) ++ (cutS c (t.drop (c - a)) cs).flatten = t
    rw [cutS_flat cs, List.take_append_drop]
theorem cutS_len : ∀ (cs : List Nat) (a : Nat) (t : List Nat), (cutS a t cs).length = cs.length + 1
  | [], a, t => rfl
  | c :: cs, a, t => by
    show (cutS c (t.drop (c - a)) cs).length + 1 = _
    rw [cutS_len cs]
    rfl
theorem cutS_sums : ∀ (cs : List Nat) (a : Nat) (t : List Nat), Asc a (a + t.length) cs → sums a (cutS a t cs) = cs
  | [], a, t, _ => rfl
  | c :: cs, a, t, h => by
    have h1 := h.1
    have h2 := h.2.1
    have e1 : (t.take (c - a)).length = c - a := by rw [List.length_take]; omega
    have e2 : c + (t.drop (c - a)).length = a + t.length := by rw [List.length_drop]; omega
    have ih := cutS_sums cs c (t.drop (c - a)) (by rw [e2]; exact h.2.2.mono (Nat.le_succ c))
    show sums a (t.take (c - a) :: cutS c (t.drop (c - a)) cs) = _
    rw [sums_cons _ _ (cutS_ne _ _ _), e1, show a + (c - a) = c by omega, ih]
theorem cutS_mid : ∀ (cs : List Nat) (a : Nat) (t : List Nat), Asc (a + 1) (a + t.length) cs → MidOk (cutS a t cs)
  | [], a, t, _ => trivial
  | c :: cs, a, t, h => by
    have h1 := h.1
    have h2 := h.2.1
    have e1 : (t.take (c - a)).length = c - a := by rw [List.length_take]; omega
    have e2 : c + (t.drop (c - a)).length = a + t.length := by rw [List.length_drop]; omega
    have ih := cutS_mid cs c (t.drop (c - a)) (by rw [e2]; exact h.2.2)
    have hne := cutS_ne c (t.drop (c - a)) cs
    show MidOk (t.take (c - a) :: cutS c (t.drop (c - a)) cs)
    cases hq : cutS c (t.drop (c - a)) cs with
    | nil => exact absurd hq hne
    | cons u r =>
      rw [hq] at ih
      refine ⟨fun z => ?_, ih⟩
      rw [z] at e1
      simp at e1
      omega
theorem cutS_ok {t cs : List Nat} (hne : cs ≠ []) (h : Asc 0 t.length cs) : SOk (cutS 0 t cs) := by
  cases cs with
  | nil => exact absurd rfl hne
  | cons c cs =>
    have h2 := h.2.1
    have e2 : c + (t.drop (c - 0)).length = t.length := by rw [List.length_drop]; omega
    have hm := cutS_mid cs c (t.drop (c - 0)) (by rw [e2]; exact h.2.2)
    have hn := cutS_ne c (t.drop (c - 0)) cs
    show SOk (t.take (c - 0) :: cutS c (t.drop (c - 0)) cs)
    cases hq : cutS c (t.drop (c - 0)) cs with
    | nil => exact absurd hq hn
    | cons u r =>
      rw [hq] at hm
      exact .mk' hm
theorem cutS_shift {a b c : Nat} {t cs : List Nat} (h : Asc (a + 1) b cs) : rowOf (cutS a (c :: t) cs) = c :: rowOf (cutS (a + 1) t cs) := by
  cases cs with
  | nil => rfl
  | cons d ds =>
    have h1 := h.1
    have e : d - a = (d - (a + 1)) + 1 := by omega
    show rowOf ((c :: t).take (d - a) :: cutS d ((c :: t).drop (d - a)) ds) = c :: rowOf (t.take (d - (a + 1)) :: cutS d (t.drop (d - (a + 1))) ds)
    rw [rowOf_cons _ (cutS_ne _ _ _), rowOf_cons _ (cutS_ne _ _ _), e]
    rfl
theorem cutS_row : ∀ (t : List Nat) (a : Nat) (cs : List Nat), Asc a (a + t.length) cs → ((List.range' a (t.length + 1)).map fun p => (if p ∈ cs then [124] else []) ++ (t.drop (p - a)).take 1).flatten = rowOf (cutS a t cs)
  | [], a, cs, h => by
    cases cs with
    | nil => simp [cutS, rowOf]
    | cons c cs =>
      have h1 := h.1
      have h2 := h.2.1
      have : c = a := by simp at h2; omega
      subst this
      cases cs with
      | nil => simp [cutS, rowOf]
      | cons d ds =>
        have h3 := h.2.2.1
        have h4 := h.2.2.2.1
        simp at h4
        omega
  | c :: t, a, cs, h => by
    have e0 : a + (c :: t).length = a + 1 + t.length := by rw [List.length_cons]; omega
    have er : List.range' a ((c :: t).length + 1) = a :: List.range' (a + 1) (t.length + 1) := by
      rw [List.length_cons, List.range'_succ]
    have key : ∀ cs', Asc (a + 1) (a + 1 + t.length) cs' → (∀ p, a + 1 ≤ p → (p ∈ cs ↔ p ∈ cs')) → ((List.range' (a + 1) (t.length + 1)).map fun p => (if p ∈ cs then [124] else []) ++ ((c :: t).drop (p - a)).take 1).flatten = rowOf (cutS (a + 1) t cs') := by
      intro cs' h' hm
      rw [← cutS_row t (a + 1) cs' h']
      congr 1
      refine List.map_congr_left fun p hp => ?_
      have hp1 : a + 1 ≤ p := by
        have := List.mem_range'.mp hp
        omega
      rw [show p - a = (p - (a + 1)) + 1 by omega, List.drop_succ_cons]
      have := hm p hp1
      simp only [this]
    rw [er, List.map_cons, List.flatten_cons]
    rw [Nat.sub_self, List.drop_zero]
    cases cs with
    | nil =>
      rw [key [] trivial (fun _ _ => Iff.rfl)]
      rfl
    | cons d ds =>
      have h1 := h.1
      rw [e0] at h
      by_cases hd : d = a
      · subst hd
        rw [key ds h.2.2 (fun p hp => by simp; omega)]
        have e1 : cutS d (c :: t) (d :: ds) = [] :: cutS d (c :: t) ds := by simp [cutS]
        rw [e1, rowOf_cons _ (cutS_ne _ _ _), cutS_shift h.2.2]
        simp
      · have h' : Asc (a + 1) (a + 1 + t.length) (d :: ds) := ⟨by omega, h.2.1, h.2.2⟩
        have hn : a ∉ d :: ds := fun hm => by
          have := (h'.le a hm).1
          omega
        rw [key (d :: ds) h' (fun _ _ => Iff.rfl), cutS_shift h', if_neg hn]
        simp
section
variable {st st0 : Sto} {k : KS} {x : XS0} {n m : Nat}
theorem cut_one {α : Type} {l : List α} {p : Nat} : cut l (some (p : Int)) (some ((p : Int) + 1)) = (l.drop p).take 1 := by
  rw [show (p : Int) + 1 = ((p + 1 : Nat) : Int) by omega, cut_nat]
  by_cases h : p < l.length
  · rw [Nat.min_eq_left (by omega), Nat.min_eq_left (by omega)]
    congr 1
    omega
  · rw [Nat.min_eq_right (by omega), Nat.min_eq_right (by omega), List.drop_length, List.drop_eq_nil_of_le (by omega)]
    simp
theorem g_inNats {p : Nat} {cs : List Nat} {kb : Bool → Prop} : gIn (.int (p : Int)) (.tuple (natsD cs)) kb = kb (decide (p ∈ cs)) := by
  show (_ ∧ _ ∧ kb ((natsD cs).any fun z => eqd z (.int (p : Int)))) = _
  have e1 : (natsD cs).all flatD = true := by
    rw [List.all_eq_true]
    intro d hd
    obtain ⟨i, _, rfl⟩ := List.mem_map.mp hd
    rfl
  have e2 : ((natsD cs).any fun z => eqd z (.int (p : Int))) = decide (p ∈ cs) := by
    unfold natsD
    rw [List.any_map, Bool.eq_iff_iff, List.any_eq_true, decide_eq_true_iff]
    have e3 : ∀ i : Nat, eqd (.int (i : Int)) (.int (p : Int)) = decide (i = p) := fun i => by
      show PyData.eqv _ _ = _
      simp [PyData.eqv]
      by_cases h : i = p
      · simp [h]
      · have : ¬ (i : Int) = p := by omega
        simp [h, this]
    constructor
    · rintro ⟨i, hi, he⟩
      have : decide (i = p) = true := by rw [← e3]; exact he
      rw [← of_decide_eq_true this]
      exact hi
    · intro h
      exact ⟨p, h, by show eqd _ _ = true; rw [e3]; simp⟩
  rw [e1, e2]
  simp [flatD]
theorem r_law_row {t cs : List Nat} (ht : t.length ≤ 1000) (h : Asc 0 t.length cs) (hk : k (.d (rowD (rowOf (cutS 0 t cs)))) st) : F_law_row [.d (.str (S t)), .d (.tuple (natsD cs))] st k x := by
  simp [F_law_row, e_run, w_law_row, g_lenS, sizeLine_eq]
  refine ⟨by omega, by omega, by omega, ?_⟩
  refine loopF_fold (α := Nat) (σ := List Nat) (fun i => .int (0 + i)) (fun f p => f ++ ((if p ∈ cs then [124] else []) ++ (t.drop p).take 1)) (fun l f => f.length + 2 * l.length ≤ 20000)
    (fun f r => ∃ y3 : Option D, r = ⟨[some (.d (.str (S t))), some (.d (.tuple (natsD cs))), some (.l st.length), y3.map R.d], st ++ [some (f.map sign)]⟩) ?_ ?_ (List.range (t.length + 1)) [] _ (by simp; omega) ⟨none, rfl⟩ ?_
  · rintro p l f r K g1 ⟨y3, rfl⟩ hK
    simp only [List.length_cons] at g1
    have hl1 : ((t.drop p).take 1).length ≤ 1 := by simp; omega
    simp [g_inNats]
    by_cases hp : p ∈ cs
    · simp [hp, uAppend, uExtend, sizeLine_eq, g_slS, cut_one, g_lstAS]
      refine ⟨by omega, by omega, by omega, by omega, hK _ ⟨some (.int p), by simp [hp, sign_S]⟩⟩
    · simp [hp, uAppend, uExtend, sizeLine_eq, g_slS, cut_one, g_lstAS]
      refine ⟨by omega, by omega, by omega, hK _ ⟨some (.int p), by simp [hp, sign_S]⟩⟩
  · rintro p l f g1
    simp only [List.length_cons] at g1
    simp only [List.length_append]
    have hl1 : ((t.drop p).take 1).length ≤ 1 := by simp; omega
    have : (if p ∈ cs then [124] else ([] : List Nat)).length ≤ 1 := by split <;> simp
    omega
  · rintro r ⟨y3, rfl⟩
    have ef : ∀ (l f : List Nat), l.foldl (fun f p => f ++ ((if p ∈ cs then [124] else []) ++ (t.drop p).take 1)) f = f ++ (l.map fun p => (if p ∈ cs then [124] else []) ++ (t.drop p).take 1).flatten := by
      intro l
      induction l with
      | nil => intro f; simp
      | cons d l ih =>
        intro f
        rw [List.foldl_cons, ih, List.map_cons, List.flatten_cons, List.append_assoc]
    have key := cutS_row t 0 cs (by rw [Nat.zero_add]; exact h)
    rw [ef, List.nil_append, List.range_eq_range']
    simp only [Nat.sub_zero] at key
    rw [key]
    simp
    exact hk
/-! ### what a row shows -/
def shStep (q : List Nat × List Nat) (c : Nat) : List Nat × List Nat := if c = 124 then (q.1, q.2 ++ [q.1.length]) else (q.1 ++ [c], q.2)
theorem sh_letters : ∀ (s : List Nat) (q : List Nat × List Nat), (∀ c ∈ s, c ≠ 124) → s.foldl shStep q = (q.1 ++ s, q.2)
  | [], q, _ => by simp
  | c :: s, q, h => by
    have e : shStep q c = (q.1 ++ [c], q.2) := if_neg (h c (by simp))
    rw [List.foldl_cons, e, sh_letters s _ fun d hd => h d (List.mem_cons_of_mem _ hd)]
    simp
theorem sh_row : ∀ (ss : List (List Nat)) (q : List Nat × List Nat), (∀ c ∈ ss.flatten, c ≠ 124) → (rowOf ss).foldl shStep q = (q.1 ++ ss.flatten, q.2 ++ sums q.1.length ss)
  | [], q, _ => by simp [rowOf, sums]
  | [s], q, h => by
    show s.foldl shStep q = _
    rw [sh_letters s q (fun c hc => h c (by simpa using hc))]
    simp [sums]
  | s :: t :: r, q, h => by
    have ih := sh_row (t :: r) (q.1 ++ s, q.2 ++ [q.1.length + s.length]) (fun c hc => h c (by rw [List.flatten_cons]; exact List.mem_append_right _ hc))
    show (s ++ 124 :: rowOf (t :: r)).foldl shStep q = _
    rw [List.foldl_append, sh_letters s q (fun c hc => h c (by rw [List.flatten_cons]; exact List.mem_append_left _ hc)), List.foldl_cons]
    have e : shStep (q.1 ++ s, q.2) 124 = (q.1 ++ s, q.2 ++ [q.1.length + s.length]) := by simp [shStep]
    have e2 : sums q.1.length (s :: t :: r) = (q.1.length + s.length) :: sums (q.1.length + s.length) (t :: r) := rfl
    rw [e, ih, e2, List.flatten_cons (l := s), List.length_append, List.append_assoc, List.append_assoc]
    rfl
theorem rowOf_len : ∀ ss : List (List Nat), (rowOf ss).length ≤ ss.flatten.length + ss.length
  | [] => by simp [rowOf]
  | [s] => by simp [rowOf]
  | s :: t :: r => by
    have ih := rowOf_len (t :: r)
    show (s ++ 124 :: rowOf (t :: r)).length ≤ _
    rw [List.flatten_cons (l := s)]
    simp only [List.length_append, List.length_cons] at ih ⊢
    omega
theorem rowOf_mem : ∀ (ss : List (List Nat)), ∀ c ∈ rowOf ss, c ∈ ss.flatten ∨ c = 124
  | [], c, h => by simp [rowOf] at h
  | [s], c, h => .inl (by simpa [rowOf] using h)
  | s :: t :: r, c, h => by
    rw [List.flatten_cons (l := s)]
    rcases List.mem_append.mp (show c ∈ s ++ 124 :: rowOf (t :: r) from h) with h | h
    · exact .inl (List.mem_append_left _ h)
    · rcases List.mem_cons.mp h with h | h
      · exact .inr h
      · rcases rowOf_mem (t :: r) c h with h | h
        · exact .inl (List.mem_append_right _ h)
        · exact .inr h
theorem lt_small : ∀ c ∈ low ++ upp, c < 0x110000 ∧ c ≠ 124 := by decide
theorem r_law_shown {ss : List (List Nat)} {a b : Nat} (h : StB a b ss) (hab : a + b ≤ 9000) (hk : k (.d (stD ss)) st) : F_law_shown [.d (rowD (rowOf ss))] st k x := by
  have hl := rowOf_len ss
  have h1 := h.fl
  have h2 := h.nb
  have h4 : 2 ≤ sizeLine := sz (by decide)
  simp [F_law_shown, e_run, w_law_shown, rowD]
  refine loopF_fold (α := Nat) (σ := List Nat × List Nat) sign shStep (fun l q => q.1.length + l.length ≤ 9000 ∧ q.2.length + l.length ≤ 9000)
    (fun q r => ∃ y3 : Option D, r = ⟨[some (.d (rowD (rowOf ss))), some (.d (.str (S q.1))), some (.l st.length), y3.map R.d], st ++ [some (natsD q.2)]⟩) ?_ ?_ (rowOf ss) ([], []) _ ⟨by simp; omega, by simp; omega⟩ ⟨none, rfl⟩ ?_
  · rintro c l q r K ⟨g1, g2⟩ ⟨y3, rfl⟩ hK
    simp only [List.length_cons] at g1 g2
    have e3 : (natsD q.2).length = q.2.length := by simp [natsD]
    simp [sign_S, g_eqS]
    by_cases hc : c = 124
    · subst hc
      simp [g_lenS, uAppend, sizeLine_eq, e3]
      refine ⟨by omega, by omega, hK _ ⟨some (.str (S [124])), ?_⟩⟩
      simp [shStep, natsD_snoc]
    · simp [hc, g_addS, sizeLine_eq]
      exact ⟨by omega, hK _ ⟨some (.str (S [c])), by simp [shStep, hc]⟩⟩
  · rintro c l q ⟨g1, g2⟩
    simp only [List.length_cons] at g1 g2
    unfold shStep
    split <;> simp <;> omega
  · rintro r ⟨y3, rfl⟩
    rw [sh_row ss _ fun c hc => (lt_small c (h.lt c hc)).2]
    simp [h4]
    simpa [stD] using hk
theorem r_law_after {ss : List (List Nat)} {row : List Nat} {a b : Nat} (h : StB a b ss) (hk : ∀ c ∈ row, isKeyB c = true) (ha : a + row.length * b + b ≤ 9000) (hK : k (.d (rowD (rowOf (pressS ss row)))) st) : F_law_after [.d (rowD (rowOf ss)), .d (.str (S row))] st k x := by
  simp [F_law_after, e_run, w_law_after, signs_S]
  refine loopF_fold (α := Nat) (σ := List (List Nat)) sign stepS (fun l s => (∀ c ∈ l, isKeyB c = true) ∧ ∃ a, StB a b s ∧ a + l.length * b + b ≤ 9000)
    (fun s r => ∃ y2 : Option D, r = ⟨[some (.d (rowD (rowOf s))), some (.d (.str (S row))), y2.map R.d], st⟩) ?_ ?_ row ss _ ⟨hk, a, h, ha⟩ ⟨none, rfl⟩ ?_
  · rintro c l s r K ⟨g1, a, g2, g3⟩ ⟨y2, rfl⟩ hK
    have q1 := g2.fl
    have q2 := g2.nb
    have hl := rowOf_len s
    rw [List.length_cons, Nat.add_mul, Nat.one_mul] at g3
    simp [sign_S]
    refine r_law_one (by omega) (fun d hd => ?_) ?_
    · rcases rowOf_mem s d hd with hd | rfl
      · exact (lt_small d (g2.lt d hd)).1
      · decide
    · rw [one_row g2.ok fun c hc => (lt_small c (g2.lt c hc)).2]
      exact hK _ ⟨some (.str (S [c])), rfl⟩
  · rintro c l s ⟨g1, a, g2, g3⟩
    rw [List.length_cons, Nat.add_mul, Nat.one_mul] at g3
    exact ⟨fun d hd => g1 d (List.mem_cons_of_mem _ hd), a + b, g2.step (g1 c (by simp)), by omega⟩
  · rintro r ⟨y2, rfl⟩
    simp
    exact hK
end
end Dl

/-! plain laws, part 23b: pressing on marks -/
namespace Dl
open PySem
open PySem.Spec
open PyProof.Rows
open L2
/-- a mark (a number from 1000 on) or a letter -/
def mkD (c : Nat) : D := if c < 1000 then sign c else .int ((c : Int) - 1000)
def mksD (l : List Nat) : List D := l.map mkD
theorem intr_nats (n : Nat) : intR 0 n = natsD (List.range n) := by
  simp [intR, natsD]
def enumI : Nat → List Nat → List (Nat × Nat)
  | _, [] => []
  | o, x :: l => (o, x) :: enumI (o + 1) l
theorem enum_pairs : ∀ (l : List Nat) (o : Nat), pairs (intR (o : Int) l.length) (mksD l) = (enumI o l).map fun p => .tuple [.int (p.1 : Int), mkD p.2]
  | [], o => by simp [enumI, mksD, pairs]
  | x :: l, o => by
    have ih := enum_pairs l (o + 1)
    have e : intR (o : Int) (x :: l).length = .int (o : Int) :: intR ((o + 1 : Nat) : Int) l.length := by
      unfold intR
      rw [List.length_cons, List.range_succ_eq_map, List.map_cons, List.map_map]
      refine congr (congrArg List.cons (by simp)) ?_
      refine List.map_congr_left fun i _ => ?_
      show PyData.int ((o : Int) + ((i + 1 : Nat) : Int)) = .int (((o + 1 : Nat) : Int) + (i : Nat))
      congr 1
      omega
    rw [e]
    show PyData.tuple [_, _] :: pairs _ (mksD l) = _
    rw [ih]
    rfl
theorem enumI_len : ∀ (l : List Nat) (o : Nat), (enumI o l).length = l.length
  | [], _ => rfl
  | x :: l, o => congrArg (· + 1) (enumI_len l (o + 1))
theorem enumI_keep (q : Nat → Bool) : ∀ (l : List Nat) (o : Nat), ((enumI o l).filter (fun p => q p.1)).map (fun p => mkD p.2) = mksD (keepI q o l)
  | [], _ => rfl
  | x :: l, o => by
    have ih := enumI_keep q l (o + 1)
    show (((o, x) :: enumI (o + 1) l).filter _).map _ = mksD (if q o = true then x :: keepI q (o + 1) l else keepI q (o + 1) l)
    by_cases h : q o = true
    · rw [List.filter_cons_of_pos (by simpa using h), if_pos h, List.map_cons, ih]
      rfl
    · rw [List.filter_cons_of_neg (by simpa using h), if_neg h, ih]
section
variable {st st0 : Sto} {k : KS} {x : XS0} {n m : Nat}
theorem g_inNatsL {p : Nat} {cs : List Nat} {kb : Bool → Prop} : gIn (.int (p : Int)) (.list (natsD cs)) kb = kb (decide (p ∈ cs)) := (show gIn (.int (p : Int)) (.list (natsD cs)) kb = gIn (.int (p : Int)) (.tuple (natsD cs)) kb from rfl).trans g_inNats
theorem g_notNatsL {p : Nat} {cs : List Nat} {kb : Bool → Prop} : gNotIn (.int (p : Int)) (.list (natsD cs)) kb = kb (!decide (p ∈ cs)) := g_inNatsL (kb := fun b => kb (!b))
structure MOk (a b : Nat) (ss : List (List Nat)) : Prop where
  ok : SOk ss
  fl : ss.flatten.length ≤ a
  nb : ss.length ≤ b
theorem r_law_moved {ss : List (List Nat)} {c a b : Nat} (h : MOk a b ss) (ha : a ≤ 100000) (hb : b ≤ 1000) (hc : c = 60 ∨ c = 62 ∨ c = 45 ∨ c = 35)
    (hk : ∀ later : List Nat, later.Pairwise (· ≤ ·) → dedupe later = sums 0 (stepS ss c) → later.length < b → k (.d (.tuple [.list (mksD (stepS ss c).flatten), .list (natsD later)])) st) :
    F_law_moved_v1 [.d (.list (mksD ss.flatten)), .d (.list (natsD (sums 0 ss))), .d (.str (S [c]))] st k x := by
  obtain ⟨hok, hfl, hnb⟩ := h
  obtain ⟨s, t, r, ess, hm⟩ := hok.cons
  have hsl := sums_len ss 0
  have hle := (sums_le ss 0).1
  have h2 : 2 ≤ ss.length := by rw [ess]; simp
  have hin := hok.asc.le
  have hlen : (sums 0 ss).length < b := by omega
  have mv1 : dedupe ((sums 0 ss).map (· - 1)) = sums 0 (stepS ss 60) := mv_sums hok
  have mv2 : (stepS ss 60).flatten = ss.flatten := hok.mv.2.1
  have mv3 : dedupe ((sums 0 ss).map fun c => min ss.flatten.length (c + 1)) = sums 0 (stepS ss 62) := rmv_sums hok
  have mv4 : (stepS ss 62).flatten = ss.flatten := by
    show (revS (mvS (revS ss))).flatten = _
    have := hok.rev.mv.2.1
    rw [revS_flatten, this, revS_flatten, List.reverse_reverse]
  obtain ⟨bs1, bs2⟩ := bsR_norm hok
  have bs3 : (stepS ss 45).flatten = (bsR ss).flatten := by rw [← bs1, norm_flat]
  have bs4 : dedupe (sums 0 (bsR ss)) = sums 0 (stepS ss 45) := by rw [← bs1]; exact sums_flat bs2
  have bs5 : (sums 0 ss).map (fun (c : Nat) => (c : Int) - (((((sums 0 ss).filter (fun c => decide (0 < c))).map (· - 1)).filter (fun g => decide (g < c))).length : Nat)) = (sums 0 (bsR ss)).map Int.ofNat := by
    rw [ess]
    exact later_bs hm
  have bs6 : keepI (fun i => !decide (i + 1 ∈ sums 0 ss)) 0 ss.flatten = (bsR ss).flatten := by
    rw [ess]
    exact keep_bs (t :: r) s 0 hm
  have bsl : (bsR ss).length = ss.length := by
    obtain ⟨u, m, v, e, _⟩ := hok
    rw [e, bsR_form]
    simp
  have bs7 : (sums 0 (bsR ss)).Pairwise (· ≤ ·) ∧ (sums 0 (bsR ss)).length < b := ⟨(sums_le _ 0).1, by rw [sums_len, bsl]; omega⟩
  have de1 : norm (s :: (t :: r).map (List.drop 1)) = stepS ss 35 := by rw [ess]; exact delR_norm
  have de3 : (stepS ss 35).flatten = s ++ ((t :: r).map (List.drop 1)).flatten := by
    rw [← de1, norm_flat]
    rfl
  have de4 : dedupe (sums 0 (s :: (t :: r).map (List.drop 1))) = sums 0 (stepS ss 35) := by
    rw [← de1]
    exact sums_flat (by simp)
  have de5 : (sums 0 ss).map (fun (c : Nat) => (c : Int) - ((((sums 0 ss).filter (fun c => decide (c < ss.flatten.length))).filter (fun g => decide (g < c))).length : Nat)) = (sums 0 (s :: (t :: r).map (List.drop 1))).map Int.ofNat := by
    rw [ess]
    exact later_del hm
  have de6 : keepI (fun i => !decide (i ∈ sums 0 ss)) 0 ss.flatten = s ++ ((t :: r).map (List.drop 1)).flatten := by
    rw [ess]
    exact keep_del0 hm
  have de7 : (sums 0 (s :: (t :: r).map (List.drop 1))).Pairwise (· ≤ ·) ∧ (sums 0 (s :: (t :: r).map (List.drop 1))).length < b := ⟨(sums_le _ 0).1, by rw [sums_len]; rw [ess] at hnb; simp at hnb ⊢; omega⟩
  generalize s ++ ((t :: r).map (List.drop 1)).flatten = dT at de3 de6
  generalize sums 0 (s :: (t :: r).map (List.drop 1)) = dC at de4 de5 de7
  generalize (bsR ss).flatten = bT at bs3 bs6
  generalize sums 0 (bsR ss) = bC at bs4 bs5 bs7
  clear de1 bs1 bs2 bsl hm ess
  generalize hT : ss.flatten = T at *
  generalize hC : sums 0 ss = cs at *
  have eL : ∀ l : List Int, ∀ l' : List Nat, l = l'.map Int.ofNat → l.map PyData.int = natsD l' := fun l l' e => by
    rw [e, List.map_map]
    rfl
  have tail : ∀ (G : List Nat) (y3 : Option R) (lt : List Nat) (mt : List Nat) (K : R → Sto → Prop) (p : Post), cs.map (fun (c : Nat) => (c : Int) - ((G.filter (fun g => decide (g < c))).length : Nat)) = lt.map Int.ofNat → keepI (fun i => !decide (i ∈ G)) 0 T = mt → G.length ≤ 1000 →
      p.rt (.d (.tuple [.list (mksD mt), .list (natsD lt)])) ⟨[some (.d (.list (mksD T))), some (.d (.list (natsD cs))), some (.d (.str (S [c]))), some (.d (.list (natsD G))), some (.d (.list (natsD lt))), none, none, none, none], st⟩ →
      (wSeq (wSet 4 (wDat (wLc (.nm 5) (wIt (wVar 1)) wYes (wOp2 gSub (wVar 5) (wB gLen (wCons (wDat (wLc (.nm 6) (wIt (wVar 3)) (wCmpT gLt (wVar 6) (wVar 5)) (wVar 6) [6])) wNil))) [5])))
        (wRet (wTup (wCons (wDat (wLc (.tp [7, 8]) (wEnum (wCons (wVar 0) wNil)) (wCmpT gNotIn (wVar 7) (wVar 3)) (wVar 8) [7, 8])) (wCons (wVar 4) wNil))))) ⟨[some (.d (.list (mksD T))), some (.d (.list (natsD cs))), some (.d (.str (S [c]))), some (.d (.list (natsD G))), none, none, none, none, none], st⟩ p := by
    intro G y3 lt mt K p e1 e2 hG hp
    simp
    refine lc1y (α := Nat) (l := cs) (fun (c : Nat) => .int c) (fun (c : Nat) => .int ((c : Int) - ((G.filter (fun g => decide (g < c))).length : Nat))) rfl (fun c _ K X hK => ?_) (by rw [sizeLine_eq]; omega) ?_
    · simp
      refine lc1 (α := Nat) (l := G) (fun (c : Nat) => .int c) (fun g => decide (g < c)) (fun (c : Nat) => .int c) rfl (fun d _ K X hK => by simpa using hK) (fun d _ _ K X hK => by simpa using hK) (by rw [sizeLine_eq]; omega) ?_
      simp
      exact hK
    · have e3 : (cs.map fun (c : Nat) => PyData.int ((c : Int) - ((G.filter (fun g => decide (g < c))).length : Nat))) = natsD lt := by
        rw [← eL _ _ e1, List.map_map]
        rfl
      rw [e3]
      simp
      have e4 : pairs (intR 0 (mksD T).length) (mksD T) = (enumI 0 T).map fun p => .tuple [.int (p.1 : Int), mkD p.2] := by
        have := enum_pairs T 0
        simpa [mksD] using this
      rw [e4]
      refine lcP (α := Nat × Nat) (l := enumI 0 T) (fun p => .int (p.1 : Int)) (fun p => mkD p.2) (fun p => !decide (p.1 ∈ G)) (fun p => mkD p.2) rfl (by decide) (fun p _ K X hK => by simpa [g_notNatsL] using hK) (fun p _ _ K X hK => by simpa using hK) (by rw [sizeLine_eq, enumI_len]; omega) ?_ (by
        intro v hv _
        simp at hv
        rcases hv with rfl | rfl <;> rfl)
      rw [enumI_keep (fun i => !decide (i ∈ G)) T 0, e2]
      simp [sizeLine_eq]
      exact hp
  simp [F_law_moved_v1, e_run, w_law_moved_v1, g_eqS, sizeLine_eq, -e_seq]
  rw [e_seq]
  rcases hc with rfl | rfl | rfl | rfl
  · simp [-e_seq, sizeLine_eq, g_eqS]
    refine lc1y (α := Nat) (l := cs) (fun (c : Nat) => .int c) (fun c => .int ((c - 1 : Nat) : Int)) rfl (fun c _ K X hK => ?_) (by rw [sizeLine_eq]; omega) ?_
    · simp
      have e : max 0 ((c : Int) - 1) = ((c - 1 : Nat) : Int) := by omega
      rw [e]
      exact hK
    · have e := hk (cs.map (· - 1)) (List.pairwise_map.mpr (hle.imp fun h => by omega)) mv1 (by rw [List.length_map]; exact hlen)
      rw [mv2] at e
      simp
      have e5 : natsD (cs.map (· - 1)) = cs.map fun c => PyData.int ((c - 1 : Nat) : Int) := by simp [natsD]
      rw [← e5]
      exact e
  · simp [-e_seq, sizeLine_eq, g_eqS]
    rw [e_seq]
    simp [-e_seq, sizeLine_eq, g_eqS]
    refine lc1y (α := Nat) (l := cs) (fun (c : Nat) => .int c) (fun c => .int ((min T.length (c + 1) : Nat) : Int)) rfl (fun c _ K X hK => ?_) (by rw [sizeLine_eq]; omega) ?_
    · simp [mksD]
      have e : min (T.length : Int) ((c : Int) + 1) = ((min T.length (c + 1) : Nat) : Int) := by omega
      rw [e]
      exact hK
    · have e := hk (cs.map fun c => min T.length (c + 1)) (List.pairwise_map.mpr (hle.imp fun h => by omega)) mv3 (by rw [List.length_map]; exact hlen)
      rw [mv4] at e
      simp
      have e5 : natsD (cs.map fun c => min T.length (c + 1)) = cs.map fun c => PyData.int ((min T.length (c + 1) : Nat) : Int) := by simp [natsD]
      rw [← e5]
      exact e
  · simp [-e_seq, sizeLine_eq, g_eqS]
    rw [e_seq]
    simp [-e_seq, sizeLine_eq, g_eqS]
    rw [e_seq]
    simp [-e_seq, sizeLine_eq, g_eqS]
    refine lc1 (α := Nat) (l := cs) (fun (c : Nat) => .int c) (fun c => decide (0 < c)) (fun c => .int ((c : Int) - 1)) rfl (fun c _ K X hK => by simpa using hK) (fun c _ _ K X hK => by simpa using hK) (by rw [sizeLine_eq]; omega) ?_
    have e5 : ((cs.filter fun c => decide (0 < c)).map fun (c : Nat) => PyData.int ((c : Int) - 1)) = natsD ((cs.filter fun c => decide (0 < c)).map (· - 1)) := by
      unfold natsD
      rw [List.map_map]
      refine List.map_congr_left fun c hc => ?_
      have := (List.mem_filter.mp hc).2
      simp at this
      show PyData.int ((c : Int) - 1) = .int ((c - 1 : Nat) : Int)
      congr 1
      omega
    rw [e5]
    simp [-e_seq]
    have hfl := List.length_filter_le (fun c => decide (0 < c)) cs
    refine tail _ none bC bT (fun _ _ => True) _ bs5 ?_ (by rw [List.length_map]; omega) ?_
    · rw [← bs6]
      refine keepI_congr _ _ fun i _ _ => ?_
      congr 1
      refine decide_eq_decide.mpr ?_
      simp only [List.mem_map, List.mem_filter, decide_eq_true_eq]
      constructor
      · rintro ⟨c, ⟨h1, h2⟩, h3⟩
        have : c = i + 1 := by omega
        rw [← this]
        exact h1
      · exact fun h => ⟨i + 1, ⟨h, by omega⟩, by omega⟩
    · have e := hk bC bs7.1 bs4 bs7.2
      rw [bs3] at e
      simp
      exact e
  · simp [-e_seq, sizeLine_eq, g_eqS]
    rw [e_seq]
    simp [-e_seq, sizeLine_eq, g_eqS]
    rw [e_seq]
    simp [-e_seq, sizeLine_eq, g_eqS]
    refine lc1 (α := Nat) (l := cs) (fun (c : Nat) => .int c) (fun c => decide (c < T.length)) (fun c => .int (c : Int)) rfl (fun c _ K X hK => by simpa [mksD] using hK) (fun c _ _ K X hK => by simpa using hK) (by rw [sizeLine_eq]; omega) ?_
    simp [-e_seq]
    have hfl := List.length_filter_le (fun c => decide (c < T.length)) cs
    refine tail _ none dC dT (fun _ _ => True) _ de5 ?_ (by omega) ?_
    · rw [← de6]
      refine keepI_congr _ _ fun i _ h2 => ?_
      congr 1
      refine decide_eq_decide.mpr ?_
      simp only [List.mem_filter, decide_eq_true_eq]
      exact ⟨fun h => h.1, fun h => ⟨h, by omega⟩⟩
    · have e := hk dC de7.1 de4 de7.2
      rw [de3] at e
      simp
      exact e
end
end Dl

/-! plain laws, part 23c: pressing on marks, key by key -/
namespace Dl
open PySem
open PySem.Spec
open PyProof.Rows
open L2
def insStep (T cs : List Nat) (k : Nat) (s : List Nat × List Nat) (p : Nat) : List Nat × List Nat :=
  if p ∈ cs then (s.1 ++ [k] ++ (T.drop p).take 1, s.2 ++ [s.1.length + 1]) else (s.1 ++ (T.drop p).take 1, s.2)
theorem ins_fold (T cs : List Nat) (k : Nat) : ∀ (l : List Nat) (p : Nat) (s : List Nat × List Nat), T.drop p = l → p + l.length = T.length → (List.range' p (l.length + 1)).foldl (insStep T cs k) s = (s.1 ++ insL cs k p l, s.2 ++ insC cs p s.1.length l)
  | [], p, s, e, hp => by
    show insStep T cs k s p = _
    unfold insStep
    rw [e]
    by_cases h : p ∈ cs <;> simp [h, insL, insC]
  | x :: l, p, s, e, hp => by
    have hd : T.drop (p + 1) = l := by
      rw [← List.drop_drop, e]
      rfl
    have ih := ins_fold T cs k l (p + 1) (insStep T cs k s p) hd (by simp only [List.length_cons] at hp; omega)
    rw [List.length_cons, List.range'_succ, List.foldl_cons, ih]
    unfold insStep
    rw [e]
    by_cases h : p ∈ cs
    · simp [h, insL, insC]
    · simp [h, insL, insC]
theorem ins_press {ss : List (List Nat)} {k : Nat} (h : SOk ss) : (List.range (ss.flatten.length + 1)).foldl (insStep ss.flatten (sums 0 ss) k) ([], []) = ((typeS k ss).flatten, sums 0 (typeS k ss)) := by
  obtain ⟨s, t, r, rfl, hm⟩ := h.cons
  have := ins_fold (s :: t :: r).flatten (sums 0 (s :: t :: r)) k (s :: t :: r).flatten 0 ([], []) rfl (by omega)
  rw [List.range_eq_range', this]
  obtain ⟨h1, h2⟩ := ins_all (s := s) (t := t) (r := r) (k := k) hm
  rw [List.nil_append, List.nil_append, List.length_nil, h1, h2]
theorem insStep_len (T cs : List Nat) (k : Nat) (s : List Nat × List Nat) (p : Nat) : (insStep T cs k s p).1.length ≤ s.1.length + 2 ∧ (insStep T cs k s p).2.length ≤ s.2.length + 1 := by
  have : ((T.drop p).take 1).length ≤ 1 := by
    rw [List.length_take]
    omega
  unfold insStep
  split <;> simp only [List.length_append, List.length_singleton] <;> omega
theorem MOk.step {a b c : Nat} {ss : List (List Nat)} (h : MOk a b ss) : MOk (a + b) b (stepS ss c) := by
  obtain ⟨h1, h2, _⟩ := step_bd h.ok c
  have hf := h.fl
  have hn := h.nb
  exact ⟨step_sok h.ok c, by omega, by omega⟩
section
variable {st st0 : Sto} {k : KS} {x : XS0} {n m : Nat}
theorem intsD_nats (l : List Nat) : intsD (natsD l) = some (l.map Int.ofNat) := intsD_map (fun i : Nat => (i : Int)) l
theorem sortS_nats {l : List Nat} (h : l.Pairwise (· ≤ ·)) (hl : l.length < 64) {K : List Int → Prop} (hk : ∀ ms : List Int, ms.map .int = natsD (dedupe l) → K ms) : withO (intsD (natsD l)) (fun ns => ns.length < 64 ∧ ∀ ms : List Int, ms.Pairwise (· < ·) → (∀ k, k ∈ ms ↔ k ∈ ns) → K ms) := by
  rw [intsD_nats]
  refine ⟨by rw [List.length_map]; exact hl, fun ms h1 h2 => hk ms ?_⟩
  rw [set_sorted h h1 h2, List.map_map]
  rfl
@[simp ↓] theorem e_sortS {w : WE} {sl : List (Option R)} {st : Sto} {kl : List D → Env → Prop} {x : XQ} : wSortS w ⟨sl, st⟩ kl x = w ⟨sl, st⟩ (fun y r1 => dref y r1 fun d => match d with
  | .list l => withO (intsD l) fun ns => ns.length < 64 ∧ ∀ ms : List Int, ms.Pairwise (· < ·) → (∀ k, k ∈ ms ↔ k ∈ ns) → kl (ms.map .int) r1
  | _ => False) x := Eq.trans rfl rfl
theorem dedupe_self {ss : List (List Nat)} (h : SOk ss) : dedupe (sums 0 ss) = sums 0 ss := by
  have hl : 2 ≤ ss.length := by
    obtain ⟨s, m, t, rfl, _⟩ := h
    simp
  rw [sums_flat hl]
  obtain ⟨s, m, t, rfl, hm⟩ := h
  rw [norm_form, List.filter_eq_self.mpr fun u hu => neL_iff.mpr (hm u hu)]
theorem mkD_low {c : Nat} (h : c < 1000) : mkD c = sign c := if_pos h
theorem r_law_pressedM {ss : List (List Nat)} {row : List Nat} {a b : Nat} (h : MOk a b ss) (hk : ∀ c ∈ row, isKeyB c = true) (hr : row.length ≤ 1000) (hb : b ≤ 64) (ha : a + row.length * b ≤ 100000)
    (hK : k (.d (.tuple [.list (mksD (pressS ss row).flatten), .list (natsD (sums 0 (pressS ss row)))])) st) : F_law_pressed_v2 [.d (.list (mksD ss.flatten)), .d (.list (natsD (sums 0 ss))), .d (.str (S row))] st k x := by
  simp [F_law_pressed_v2, e_run, w_law_pressed_v2, signs_S, sizeLine_eq, -e_seq]
  rw [e_seq, e_for]
  simp [-e_seq, signs_S, sizeLine_eq]
  refine loopF_fold (α := Nat) (σ := List (List Nat)) sign stepS (fun l ss => (∃ a, MOk a b ss ∧ a + l.length * b ≤ 100000) ∧ ∀ c ∈ l, isKeyB c = true)
    (fun ss r => ∃ (y3 y4 y5 y6 : Option R) (E : Sto), r = ⟨[some (.d (.list (mksD ss.flatten))), some (.d (.list (natsD (sums 0 ss)))), some (.d (.str (S row))), y3, y4, y5, y6], st ++ E⟩) ?_ ?_ row ss _ ⟨⟨a, h, ha⟩, hk⟩ ⟨none, none, none, none, [], by simp⟩ ?_
  · rintro c l ss r K ⟨⟨a, h, ha⟩, hk⟩ ⟨y3, y4, y5, y6, E, rfl⟩ hK
    have hc := hk c (by simp)
    have hlb : a + b + l.length * b ≤ 100000 := by
      rw [List.length_cons, Nat.add_mul, Nat.one_mul] at ha
      omega
    have h2 : 2 ≤ ss.length := by
      obtain ⟨s, m, t, rfl, _⟩ := h.ok
      simp
    have hnb := h.nb
    have hfl := h.fl
    have hsl := sums_len ss 0
    rw [e_asg, e_seq, e_put]
    simp only [List.set_cons_succ, List.set_cons_zero]
    rw [e_ifS]
    simp [-e_seq, sign_S]
    by_cases hm : c = 60 ∨ c = 62 ∨ c = 45 ∨ c = 35
    · rw [if_pos hm]
      refine r_law_moved h (by omega) (by omega) hm fun later h1 h2 h3 => ?_
      simp
      refine sortS_nats h1 (by omega) fun ms hms => ?_
      rw [hms, h2]
      exact hK _ ⟨_, _, _, _, E, rfl⟩
    · rw [if_neg hm]
      have h45 : c ≠ 45 := fun z => hm (by simp [z])
      have h60 : c ≠ 60 := fun z => hm (by simp [z])
      have h35 : c ≠ 35 := fun z => hm (by simp [z])
      have h62 : c ≠ 62 := fun z => hm (by simp [z])
      have hl : c ∈ low := by
        simp [isKeyB, h45, h60, h35, h62] at hc
        exact hc
      have c1000 : c < 1000 := by
        have : ∀ c ∈ low, c < 1000 := by decide
        exact this c hl
      have est : stepS ss c = typeS c ss := by
        unfold stepS
        rw [if_neg h45, if_neg h60, if_neg h35, if_neg h62]
      have ep := ins_press (k := c) h.ok
      have hok2 := step_sok h.ok c
      have hbd := step_bd h.ok c
      rw [est] at hok2 hbd hK
      generalize hT : ss.flatten = T at *
      generalize hC : sums 0 ss = cs at *
      have hTl : (mksD T).length = T.length := by simp [mksD]
      simp [sizeLine_eq, hTl]
      refine ⟨by omega, by omega, ?_⟩
      generalize hS : st ++ E = S0
      refine loopF_fold (α := Nat) (σ := List Nat × List Nat) (fun i => .int (0 + i)) (insStep T cs c) (fun l s => s.1.length + 2 * l.length ≤ 400000 ∧ s.2.length + l.length ≤ 400000)
        (fun s r => ∃ y6 : Option R, r = ⟨[some (.d (.list (mksD T))), some (.d (.list (natsD cs))), some (.d (.str (S row))), some (.d (.str (S [c]))), some (.l (S0.length + 1)), some (.l S0.length), y6], S0 ++ [some (mksD s.1), some (natsD s.2)]⟩) ?_ ?_ (List.range (T.length + 1)) ([], []) _ (by simp; omega) ⟨y6, ?_⟩ ?_
      · rintro p l2 s r K2 ⟨g1, g2⟩ ⟨y6, rfl⟩ hK2
        simp only [List.length_cons] at g1 g2
        have hl1 : ((T.drop p).take 1).length ≤ 1 := by
          rw [List.length_take]
          omega
        simp [g_inNatsL]
        have m1 : (mksD s.1).length = s.1.length := by simp [mksD]
        have m2 : (natsD s.2).length = s.2.length := by simp [natsD]
        have m3 : ((mksD T).drop p).take 1 = mksD ((T.drop p).take 1) := by simp [mksD, List.map_take, List.map_drop]
        have m4 : (mksD ((T.drop p).take 1)).length = ((T.drop p).take 1).length := by simp [mksD]
        by_cases hp : p ∈ cs
        · simp only [hp, if_true]
          simp [uAppend, uExtend, sizeLine_eq, cut_one, m1, m2, m3]
          refine ⟨by omega, by omega, by omega, hK2 _ ⟨some (.d (.int p)), ?_⟩⟩
          simp [insStep, hp, mksD, natsD, mkD_low c1000, sign_S]
        · simp only [hp, if_false]
          simp [uAppend, uExtend, sizeLine_eq, cut_one, m1, m2, m3]
          refine ⟨by omega, hK2 _ ⟨some (.d (.int p)), ?_⟩⟩
          simp [insStep, hp, mksD, natsD]
      · rintro p l2 s ⟨g1, g2⟩
        have := insStep_len T cs c s p
        simp only [List.length_cons] at g1 g2
        omega
      · simp [mksD, natsD, ← hS]
        omega
      · rintro r ⟨y6, rfl⟩
        rw [ep]
        simp
        have hlt : (sums 0 (typeS c ss)).length < 64 := by
          rw [sums_len]
          omega
        refine sortS_nats (sums_le _ 0).1 hlt fun ms hms => ?_
        rw [hms, dedupe_self hok2]
        rw [← hS]
        simp
        exact hK _ ⟨_, _, _, _, _, rfl⟩
  · rintro c l ss ⟨⟨a, h, ha⟩, hk⟩
    refine ⟨⟨a + b, h.step, ?_⟩, fun d hd => hk d (List.mem_cons_of_mem _ hd)⟩
    rw [List.length_cons, Nat.add_mul, Nat.one_mul] at ha
    omega
  · rintro r ⟨y3, y4, y5, y6, E, rfl⟩
    simp [sizeLine_eq]
    exact hK
end
end Dl

/-! plain laws, part 23d: what a list without moves does, by its form -/
namespace Dl
structure FmI (f : Fm) : Prop where
  e : f.sur = f.back + f.ahead - f.word.length
  s : f.sur ≤ f.depth
  z : 0 ≤ f.depth
  b : (f.back : Int) ≤ f.depth
  lo : ∀ c ∈ f.word, c ∈ low
theorem FmI.nil : FmI ⟨0, [], 0, 0, 0⟩ := ⟨by simp, by simp, by simp, by simp, by simp⟩
theorem FmI.step {f : Fm} {c : Nat} (h : FmI f) : FmI (stepF f c) := by
  obtain ⟨h1, h2, h3, h4, h5⟩ := h
  unfold stepF
  by_cases hl : c ∈ low
  · rw [if_pos hl]
    refine ⟨by simp; omega, by simp; omega, h3, h4, fun d hd => ?_⟩
    rcases List.mem_append.mp hd with hd | hd
    · exact h5 d hd
    · rw [List.mem_singleton.mp hd]
      exact hl
  · rw [if_neg hl]
    by_cases h35 : c = 35
    · rw [if_pos h35]
      exact ⟨by simp; omega, by simp; omega, by simp; omega, by simp; omega, h5⟩
    · rw [if_neg h35]
      by_cases hw : f.word = []
      · rw [if_pos hw]
        rw [hw] at h1
        simp at h1
        refine ⟨by simp [hw]; omega, by simp; omega, by simp; omega, by simp; omega, h5⟩
      · rw [if_neg hw]
        have hlen : 0 < f.word.length := List.length_pos_iff.mpr hw
        refine ⟨by simp; omega, by simp; omega, by simp; omega, by simp; omega, fun d hd => h5 d (List.dropLast_subset _ hd)⟩
theorem formS_snoc (row : List Nat) (c : Nat) : formS (row ++ [c]) = stepF (formS row) c := by
  unfold formS
  rw [List.foldl_append]
  rfl
theorem formI (row : List Nat) : FmI (formS row) := by
  have go : ∀ (l : List Nat) (f : Fm), FmI f → FmI (l.foldl stepF f) := by
    intro l
    induction l with
    | nil => exact fun f h => h
    | cons c l ih => exact fun f h => ih _ h.step
  exact go row _ .nil
/-- a gap that is left -/
def gapF (f : Fm) (g : List Nat) : List Nat := (g.take (g.length - f.back) ++ f.word).drop f.ahead
def keptF (f : Fm) (m : List (List Nat)) : List (List Nat) := m.filter fun g => decide (f.depth < g.length)
theorem gapF_len {f : Fm} (h : FmI f) {g : List Nat} (hg : f.depth < g.length) : ((gapF f g).length : Int) = g.length - f.sur ∧ f.ahead ≤ (g.take (g.length - f.back) ++ f.word).length := by
  obtain ⟨h1, h2, h3, h4, h5⟩ := h
  unfold gapF
  simp only [List.length_drop, List.length_append, List.length_take]
  omega
theorem stepF_low {f : Fm} {c : Nat} (h : c ∈ low) : stepF f c = { f with word := f.word ++ [c], sur := f.sur - 1 } := if_pos h
theorem stepF_del {f : Fm} : stepF f 35 = { f with sur := f.sur + 1, depth := max f.depth (f.sur + 1), ahead := f.ahead + 1 } := by
  unfold stepF
  rw [if_neg (by decide), if_pos rfl]
theorem stepF_bs0 {f : Fm} (h : f.word = []) : stepF f 45 = { f with sur := f.sur + 1, depth := max f.depth (f.sur + 1), back := f.back + 1 } := by
  unfold stepF
  rw [if_neg (by decide), if_neg (by decide), if_pos h]
theorem stepF_bs1 {f : Fm} (h : f.word ≠ []) : stepF f 45 = { f with sur := f.sur + 1, depth := max f.depth (f.sur + 1), word := f.word.dropLast } := by
  unfold stepF
  rw [if_neg (by decide), if_neg (by decide), if_neg h]
theorem dropLast_drop {l : List Nat} {n : Nat} : (l.drop n).dropLast = l.dropLast.drop n := by
  rw [List.dropLast_eq_take, List.dropLast_eq_take, List.length_drop]
  rw [List.drop_take]
  congr 1
  omega
/-- one key more at the gaps that are left -/
theorem kept_step {f f' : Fm} (h : FmI f) (fn : List Nat → List Nat) (hd : f'.depth = max f.depth (f.sur + 1)) (hfn : ∀ g : List Nat, f.depth < g.length → fn (gapF f g) = gapF f' g) (hl : ∀ l, (fn l).length = l.length - 1) (m : List (List Nat)) :
    (((keptF f m).map (gapF f)).map fn).filter neL = (keptF f' m).map (gapF f') := by
  unfold keptF
  induction m with
  | nil => rfl
  | cons g m ih =>
    by_cases hg : f.depth < g.length
    · rw [List.filter_cons_of_pos (by simpa using hg), List.map_cons, List.map_cons]
      have hgl := (gapF_len h hg).1
      have e := hfn g hg
      have e2 := hl (gapF f g)
      by_cases hg' : f'.depth < g.length
      · rw [List.filter_cons_of_pos (p := fun (g : List Nat) => decide (f'.depth < (g.length : Int))) (by simpa using hg'), List.map_cons, List.filter_cons_of_pos, ih, e]
        rw [neL_iff]
        intro z
        rw [z] at e2
        simp at e2
        omega
      · rw [List.filter_cons_of_neg (p := fun (g : List Nat) => decide (f'.depth < (g.length : Int))) (by simpa using hg'), List.filter_cons_of_neg, ih]
        have z : fn (gapF f g) = [] := List.eq_nil_of_length_eq_zero (by omega)
        rw [z]
        simp [neL]
    · rw [List.filter_cons_of_neg (by simpa using hg), ih, List.filter_cons_of_neg (p := fun (g : List Nat) => decide (f'.depth < (g.length : Int)))]
      simp
      omega
def formRes (f : Fm) (s : List Nat) (m : List (List Nat)) (t : List Nat) : List (List Nat) := (s.take (s.length - f.back) ++ f.word) :: ((keptF f m).map (gapF f) ++ [t.drop f.ahead])
theorem press_snoc (ss : List (List Nat)) (row : List Nat) (c : Nat) : pressS ss (row ++ [c]) = stepS (pressS ss row) c := by
  unfold pressS
  rw [List.foldl_append]
  rfl
def StillK (c : Nat) : Prop := c ∈ low ∨ c = 45 ∨ c = 35
theorem still_of {c : Nat} (h : isKeyB c = true ∧ isMove c = false) : StillK c := by
  obtain ⟨h3, h4⟩ := h
  simp [isKeyB, isMove] at h3 h4
  unfold StillK
  rcases h3 with h3 | h3
  · exact .inl h3
  · omega
theorem form_step {f : Fm} (h : FmI f) {c : Nat} (hc : StillK c) (s : List Nat) (m : List (List Nat)) (t : List Nat) (hm : ∀ u ∈ m, u ≠ []) : stepS (formRes f s m t) c = formRes (stepF f c) s m t := by
  unfold formRes
  rcases hc with hl | rfl | rfl
  · have h45 : c ≠ 45 := fun z => by rw [z] at hl; revert hl; decide
    have h60 : c ≠ 60 := fun z => by rw [z] at hl; revert hl; decide
    have h35 : c ≠ 35 := fun z => by rw [z] at hl; revert hl; decide
    have h62 : c ≠ 62 := fun z => by rw [z] at hl; revert hl; decide
    unfold stepS
    rw [if_neg h45, if_neg h60, if_neg h35, if_neg h62, stepF_low hl]
    have := typeS_form c ((s.take (s.length - f.back) ++ f.word) :: (keptF f m).map (gapF f)) (t.drop f.ahead)
    rw [List.cons_append] at this
    rw [this, List.map_cons, List.cons_append]
    simp only [List.append_assoc]
    congr 2
    rw [List.map_map]
    refine List.map_congr_left fun g hg => ?_
    have hg' : f.depth < g.length := by
      have := (List.mem_filter.mp hg).2
      simpa using this
    show gapF f g ++ [c] = _
    unfold gapF
    have := (gapF_len h hg').2
    rw [← List.append_assoc, List.drop_append_of_le_length this]
  · unfold stepS
    rw [if_pos rfl, bsS_form]
    have dl : ∀ l : List Nat, (l.take (l.length - f.back) ++ f.word).dropLast = l.take (l.length - (stepF f 45).back) ++ (stepF f 45).word := by
      intro l
      by_cases hw : f.word = []
      · rw [stepF_bs0 hw]
        simp only [hw, List.append_nil]
        rw [List.dropLast_eq_take, List.take_take, List.length_take]
        congr 1
        omega
      · rw [stepF_bs1 hw]
        simp only
        rw [List.dropLast_append_of_ne_nil hw]
    have ha : (stepF f 45).ahead = f.ahead := by
      by_cases hw : f.word = []
      · rw [stepF_bs0 hw]
      · rw [stepF_bs1 hw]
    have hd : (stepF f 45).depth = max f.depth (f.sur + 1) := by
      by_cases hw : f.word = []
      · rw [stepF_bs0 hw]
      · rw [stepF_bs1 hw]
    rw [dl s, ha, kept_step h List.dropLast hd (fun g _ => ?_) (fun l => List.length_dropLast) m]
    unfold gapF
    rw [dropLast_drop, dl g, ha]
  · have e35 : stepS ((s.take (s.length - f.back) ++ f.word) :: ((keptF f m).map (gapF f) ++ [t.drop f.ahead])) 35 = (s.take (s.length - f.back) ++ f.word) :: ((((keptF f m).map (gapF f)).map (List.drop 1)).filter neL ++ [(t.drop f.ahead).drop 1]) := by
      unfold stepS
      rw [if_neg (by decide), if_neg (by decide), if_pos rfl, del_form]
    rw [e35, kept_step (f' := stepF f 35) h (List.drop 1) (by rw [stepF_del]) (fun g _ => ?_) (fun l => List.length_drop) m, stepF_del]
    · simp only [List.drop_drop]
    · unfold gapF
      rw [stepF_del]
      simp only [List.drop_drop]
theorem press_form (s : List Nat) (m : List (List Nat)) (t : List Nat) (hm : ∀ u ∈ m, u ≠ []) (row : List Nat) (hr : ∀ c ∈ row, StillK c) : pressS (s :: (m ++ [t])) row = formRes (formS row) s m t := by
  have go : ∀ (l : List Nat) (f : Fm), FmI f → (∀ c ∈ l, StillK c) → l.foldl stepS (formRes f s m t) = formRes (l.foldl stepF f) s m t := by
    intro l
    induction l with
    | nil => exact fun f _ _ => rfl
    | cons c l ih =>
      intro f hf hc
      rw [List.foldl_cons, List.foldl_cons, form_step hf (hc c (by simp)) s m t hm]
      exact ih _ hf.step fun d hd => hc d (List.mem_cons_of_mem _ hd)
  have e0 : formRes ⟨0, [], 0, 0, 0⟩ s m t = s :: (m ++ [t]) := by
    unfold formRes keptF
    have e1 : m.filter (fun g => decide ((0 : Int) < g.length)) = m := List.filter_eq_self.mpr fun u hu => by
      have := List.length_pos_iff.mpr (hm u hu)
      simpa using this
    have e2 : m.map (gapF ⟨0, [], 0, 0, 0⟩) = m := by
      have : ∀ g ∈ m, gapF ⟨0, [], 0, 0, 0⟩ g = id g := fun g _ => by
        unfold gapF
        simp
      rw [List.map_congr_left this, List.map_id]
    simp only [e1, e2]
    simp
  have := go row _ .nil hr
  rw [e0] at this
  exact this
end Dl

/-! plain law k17 -/
namespace Dl
open PySem
open PySem.Spec
open PyProof.Rows
open L2
section
variable {st : Sto} {k : KS} {x : XS0}
def leftD (s : Fm) : List D := ((List.range (70 - s.back)).map fun (i : Nat) => PyData.int i) ++ s.word.map sign
def rightD (s : Fm) : List D := (List.range (70 - s.ahead)).map fun (i : Nat) => .int (70 + s.ahead + i)
def FInv (l : List Nat) (s : Fm) : Prop := s.back + l.length ≤ 60 ∧ s.ahead + l.length ≤ 60 ∧ s.word.length + l.length ≤ 60 ∧ s.sur ≤ s.depth ∧ ∀ c ∈ l, isKeyB c = true ∧ isMove c = false
theorem notMv {c : Nat} (h : isKeyB c = true ∧ isMove c = false) (h1 : c ∉ low) (h2 : c ≠ 35) : c = 45 := by
  obtain ⟨h3, h4⟩ := h
  simp [isKeyB, isMove] at h3 h4
  rcases h3 with h3 | h3
  · exact absurd h3 h1
  · omega
theorem FInv.step {c : Nat} {l : List Nat} {s : Fm} (h : FInv (c :: l) s) : FInv l (stepF s c) := by
  obtain ⟨h1, h2, h3, h4, h5⟩ := h
  simp only [List.length_cons] at h1 h2 h3
  have hw := stepF_word s c
  refine ⟨?_, ?_, by omega, ?_, fun d hd => h5 d (List.mem_cons_of_mem _ hd)⟩
  all_goals
    unfold stepF
    split
    · dsimp only; omega
    · split
      · dsimp only; omega
      · split <;> (dsimp only; omega)
theorem range_dropLast {n : Nat} (f : Nat → D) : ((List.range (n + 1)).map f).dropLast = (List.range n).map f := by
  rw [List.range_succ, List.map_append, List.map_singleton, List.dropLast_concat]
theorem range_tail {n : Nat} (f : Nat → D) : ((List.range (n + 1)).map f).eraseIdx 0 = (List.range n).map fun i => f (i + 1) := by
  rw [List.range_succ_eq_map, List.map_cons, List.map_map]
  rfl
theorem r_law_form {row : List Nat} (hr : Row 60 row) (h : k (.d (fmD (formS row))) st) : F_law_form [.d (.str (S row))] st k x := by
  simp [F_law_form, e_run, w_law_form, signs_S]
  refine ⟨?_, ?_, ?_⟩
  · exact ⟨by decide, by decide, by decide, by decide, by decide⟩
  · exact ⟨by decide, by decide, by decide, by decide, by decide⟩
  refine loopF_fold (α := Nat) (σ := Fm) sign stepF FInv
    (fun s r => ∃ kk : Option D, r = ⟨[some (.d (.str (S row))), some (.l st.length), some (.l (st.length + 1)), some (.d (.int s.depth)), some (.d (.int s.sur)), kk.map R.d, none, none, none], st ++ [some (leftD s), some (rightD s)]⟩)
    ?_ (fun c l s h => h.step) row ⟨0, [], 0, 0, 0⟩ _ ⟨by simpa using hr.1, by simpa using hr.1, by simpa using hr.1, by simp, hr.2⟩ ⟨none, ?_⟩ ?_
  · rintro c l s r K hI ⟨kk, rfl⟩ hK
    obtain ⟨h1, h2, h3, h4, h5⟩ := hI
    simp only [List.length_cons] at h1 h2 h3
    have hkc := h5 c (by simp)
    have e45 : (45 : Nat) ∉ low := by decide
    have e35 : (35 : Nat) ∉ low := by decide
    simp [sign_S, g_eqS, sizeLine_eq]
    by_cases c45 : c = 45
    · subst c45
      by_cases hw : s.word = []
      · have el : leftD s = (List.range (69 - s.back + 1)).map fun (i : Nat) => PyData.int i := by
          unfold leftD
          rw [hw, List.map_nil, List.append_nil]
          congr 2
          omega
        have eg : (leftD s).getLast? = some (.int ((69 - s.back : Nat) : Int)) := by
          rw [el, List.range_succ, List.map_append, List.map_singleton, List.getLast?_concat]
        have ed : (leftD s).dropLast = leftD (stepF s 45) := by
          rw [el, range_dropLast]
          simp [stepF, e45, hw, leftD]
          first | done | (congr 2; omega)
        simp [uPop, eg, ed, g_ixL]
        exact hK _ ⟨some (.str (S [45])), by simp [stepF, e45, hw, rightD]⟩
      · have eg : (leftD s).getLast? = some (sign (s.word.getLast hw)) := by
          unfold leftD
          rw [List.getLast?_append, List.getLast?_map, List.getLast?_eq_getLast hw]
          rfl
        have ed : (leftD s).dropLast = leftD (stepF s 45) := by
          simp [stepF, e45, hw, leftD]
          first | done | rw [List.dropLast_append_of_ne_nil (by simpa using hw), List.dropLast_map]
        simp [uPop, eg, ed, g_ixL]
        exact hK _ ⟨some (.str (S [45])), by simp [stepF, e45, hw, rightD]⟩
    · by_cases c35 : c = 35
      · subst c35
        have er : rightD s = (List.range (69 - s.ahead + 1)).map fun (i : Nat) => PyData.int (70 + s.ahead + i) := by
          unfold rightD
          congr 2
          omega
        have el : (rightD s).length = 70 - s.ahead := by simp [rightD]
        have eg : (rightD s)[0]? = some (.int (70 + s.ahead + (0 : Nat))) := by
          rw [er, List.getElem?_map, List.getElem?_range (by omega)]
          rfl
        have ed : (rightD s).eraseIdx 0 = rightD (stepF s 35) := by
          rw [er, range_tail]
          simp [stepF, e35, rightD]
          omega
        have h70 : 0 < 70 - s.ahead := by omega
        simp [uPop, eg, ed, el, h70, g_ixL]
        exact hK _ ⟨some (.str (S [35])), by simp [stepF, e35, leftD]⟩
      · have hl : c ∈ low := by
          by_cases hl : c ∈ low
          · exact hl
          · exact absurd (notMv hkc hl c35) c45
        have el : (leftD s).length ≤ 1000 := by
          simp [leftD]
          omega
        have ed : leftD s ++ [PyData.str (S [c])] = leftD (stepF s c) := by
          simp [stepF, hl, leftD, sign_S]
        have em : max s.depth (s.sur - 1) = s.depth := by omega
        simp [c45, c35, uAppend, ed, g_ixL, sizeLine_eq]
        refine ⟨by omega, hK _ ⟨some (.str (S [c])), ?_⟩⟩
        have e1 : s.sur + -1 = s.sur - 1 := by omega
        simp [stepF, hl, rightD, e1, em]
  · have e1 : rgD 0 70 = leftD ⟨0, [], 0, 0, 0⟩ := by
      simp [rgD, leftD]
    have e2 : rgD 70 140 = rightD ⟨0, [], 0, 0, 0⟩ := by
      simp [rgD, rightD]
    rw [e1, e2]
    rfl
  · rintro r ⟨kk, rfl⟩
    have hF : FInv [] (formS row) := by
      have go : ∀ (l : List Nat) (s : Fm), FInv l s → FInv [] (l.foldl stepF s) := by
        intro l
        induction l with
        | nil => exact fun s h => h
        | cons c l ih => exact fun s h => ih _ h.step
      exact go row _ ⟨by simpa using hr.1, by simpa using hr.1, by simpa using hr.1, by simp, hr.2⟩
    have ef : row.foldl stepF ⟨0, [], 0, 0, 0⟩ = formS row := rfl
    rw [ef]
    generalize formS row = s at hF h
    obtain ⟨h1, h2, h3, h4, h5⟩ := hF
    simp only [List.length_nil] at h1 h2 h3
    simp
    have lints : (leftD s).length ≤ 1000 := by
      simp [leftD]
      omega
    refine lc1 (α := D) (l := leftD s) id (fun d => isiD "int" d) id (by simp) (fun d _ K X hK => by simpa using hK) (fun d _ _ K X hK => by simpa using hK) (sz (by omega)) ?_
    simp
    refine lc1 (α := D) (l := leftD s) id (fun d => isiD "str" d) id (by simp) (fun d _ K X hK => by simpa using hK) (fun d _ _ K X hK => by simpa using hK) (sz (by omega)) ?_
    have fi : (leftD s).filter (isiD "int") = (List.range (70 - s.back)).map fun (i : Nat) => PyData.int i := by
      unfold leftD
      rw [List.filter_append, List.filter_eq_self.mpr, List.filter_eq_nil_iff.mpr, List.append_nil]
      · simp [sign_S]
      · simp
    have fs : (leftD s).filter (isiD "str") = s.word.map sign := by
      unfold leftD
      rw [List.filter_append, List.filter_eq_nil_iff.mpr, List.filter_eq_self.mpr, List.nil_append]
      · simp [sign_S]
      · simp
    have es : strsD (s.word.map sign) = some (s.word.map fun c => S [c]) := strsD_map (fun c => S [c]) s.word
    simp [fi, fs, sizeLine_eq]
    rw [mJ es, sum_ones, join_nil]
    refine ⟨by simp; omega, ?_⟩
    simp [rightD]
    have e1 : (70 : Int) - ((70 - s.back : Nat) : Int) = s.back := by omega
    have e2 : (70 : Int) - ((70 - s.ahead : Nat) : Int) = s.ahead := by omega
    rw [e1, e2]
    exact h
theorem nice_fm (s : Fm) : nice 1 (fmD s) := ⟨by simp, by simp [nice]⟩
theorem nice_le : ∀ {n : Nat} {d : D}, nice n d → nice (n + 1) d
  | _, .none, _ => trivial
  | _, .bool _, _ => trivial
  | _, .int _, _ => trivial
  | _, .str _, _ => trivial
  | 0, .list _, h => h.elim
  | 0, .tuple _, h => h.elim
  | _ + 1, .list _, ⟨h1, h2⟩ => ⟨h1, fun d hd => nice_le (h2 d hd)⟩
  | _ + 1, .tuple _, ⟨h1, h2⟩ => ⟨h1, fun d hd => nice_le (h2 d hd)⟩
  | 0, .dict _, h => h.elim
  | _ + 1, .dict _, h => h.elim
theorem Row.lit {n : Nat} {l : List Nat} (h1 : l.length ≤ n) (h2 : ∀ c ∈ l, c = 45 ∨ c = 35 ∨ c = 120) : Row n l := ⟨h1, fun c hc => by
  rcases h2 c hc with rfl | rfl | rfl <;> decide⟩
theorem same3 {st : Sto} {k : KS} {x : XS0} (s : Fm) (h : k (.d (.bool true)) st) : F_law_same_v1 8 [.d (.list [fmD s, fmD s, fmD s]), .d (.list [fmD s, fmD s, fmD s])] st k x :=
  r_same 7 (.list [fmD s, fmD s, fmD s]) ⟨by simp, by simp [nice, fmD]⟩ h
end
end Dl

/-! plain law k24 -/
namespace Dl
open PySem
open PySem.Spec
open PyProof.Rows
open L2
section
variable {st st0 : Sto} {k : KS} {x : XS0} {n m : Nat}
/-- forms and layouts as drawn -/
structure FrGr (f : Frm) : Prop extends FrOk f where
  bs : f.back < 10 ^ 39
  as : f.ahead < 10 ^ 39
  ws : f.word.length ≤ 300
theorem r_law_great (hd : Dr n m st0 st) (hm : m ≤ 900000) (h : ∀ st' f, Dr n (m + 400) st0 st' → FrGr f → k (.d (frD f)) st') : F_law_great [.l n] st k x := by
  simp [F_law_great, e_run, w_law_great, sizeLine_eq]
  try simp
  refine lcI (α := Nat) (fun i => .int (0 + i)) (fun l acc st' => acc.length + l.length = 2 ∧ IntsP (fun i => 0 ≤ i ∧ i < 10 ^ 39) acc ∧ Dr n (m + 3 * acc.length) st0 st') (fun a l acc st1 K X hI hK => ?_) (l := List.range 2) rfl (by simp [sizeLine_eq]) ⟨by simp, .nil, by simpa using hd⟩ (fun acc st1 hI => ?_)
  · obtain ⟨h1, h2, h3⟩ := hI
    simp at h1
    simp [sizeLine_eq]
    try simp
    refine r_takeD h3 (by omega) (by decide) (by decide) fun st2 i2 hd2 hi2 hj2 => ?_
    try simp
    refine ⟨by decide, ?_⟩
    try simp
    refine r_takeD hd2 (by omega) (by decide) (by decide) fun st3 i3 hd3 hi3 hj3 => ?_
    try simp
    refine r_takeD hd3 (by omega) (by decide) (by decide) fun st4 i4 hd4 hi4 hj4 => ?_
    try simp
    obtain ⟨c, hc, hp⟩ := pick2 (P := fun i => 0 ≤ i ∧ i < 10 ^ 39) (a := i2) (b := i3) hi4 hj4 ⟨hi2, by omega⟩ ⟨hi3, by omega⟩
    try simp
    rw [g_ixL, hc]
    have := hK (.int c) st4 ⟨by simp; omega, h2.add hp, hd4.mono (by simp; omega)⟩
    simpa using this
  · obtain ⟨h1, h2, h3⟩ := hI
    rw [List.length_nil, Nat.add_zero] at h1
    obtain ⟨a, b, rfl, ha, hb⟩ := h2.two h1
    simp [sizeLine_eq]
    try simp
    refine r_takeD h3 (by simp; omega) (by decide) (by decide) fun st2 i2 hd2 hi2 hj2 => ?_
    try simp
    refine r_takeD hd2 (by simp; omega) (by decide) (by decide) fun st3 i3 hd3 hi3 hj3 => ?_
    try simp
    refine r_takeD hd3 (by simp; omega) (by decide) (by decide) fun st4 i4 hd4 hi4 hj4 => ?_
    try simp
    obtain ⟨c, hc, hp⟩ := pick2 (P := fun i => 0 ≤ i ∧ i < 301) (a := i2) (b := i3) hi4 hj4 ⟨hi2, by omega⟩ ⟨hi3, by omega⟩
    try simp
    rw [g_ixL, hc]
    simp
    refine ⟨by omega, by omega, ?_⟩
    obtain ⟨N, rfl⟩ : ∃ N : Nat, c = N := ⟨c.toNat, by omega⟩
    have hN : N ≤ 300 := by omega
    have h9 : Dr n (m + 9) st0 st4 := hd4.mono (by simp)
    try simp
    refine lcI (α := Nat) (fun i => .int (0 + i)) (fun l acc st' => acc.length + l.length = N ∧ (∃ ws : List Nat, acc = ws.map (fun c => .str (S [c])) ∧ ∀ c ∈ ws, c ∈ low) ∧ Dr n (m + 9 + acc.length) st0 st') (fun a1 l acc st1 K X hI hK => ?_) (l := List.range N) rfl (by simp [sizeLine_eq]; omega) ⟨by simp, ⟨[], rfl, by simp⟩, by simpa using h9⟩ (fun acc st1 hI => ?_)
    · obtain ⟨q1, ⟨ws, rfl, q2⟩, q3⟩ := hI
      simp at q1 q3
      simp
      try simp
      refine r_takeD q3 (by omega) (by decide) (by decide) fun st5 i5 hd5 hi5 hj5 => ?_
      simp [g_ixS, sizeLine_eq]
      have h3 : i5 = 0 ∨ i5 = 1 ∨ i5 = 2 := by omega
      have go : ∀ c ∈ [97, 98, 122], c ∈ low := by decide
      obtain ⟨c, hc, hl⟩ : ∃ c, atI [97, 98, 122] i5 = some c ∧ c ∈ low := by
        rcases h3 with rfl | rfl | rfl
        · exact ⟨97, rfl, go _ (by simp)⟩
        · exact ⟨98, rfl, go _ (by simp)⟩
        · exact ⟨122, rfl, go _ (by simp)⟩
      try simp
      rw [hc]
      have := hK (.str (S [c])) st5 ⟨by simp; omega, ⟨ws ++ [c], by simp, fun d hd => ?_⟩, hd5.mono (by simp; omega)⟩
      · simpa using this
      · rcases List.mem_append.mp hd with hd | hd
        · exact q2 d hd
        · rw [List.mem_singleton.mp hd]
          exact hl
    · obtain ⟨q1, ⟨ws, rfl, q2⟩, q3⟩ := hI
      simp at q1 q3
      try simp
      rw [mJ (strsD_map (fun c => S [c]) ws), sum_ones, join_nil]
      refine ⟨by simp; omega, ?_⟩
      simp [sizeLine_eq]
      try simp
      refine r_takeD q3 (by omega) (by omega) (by omega) fun st5 i5 hd5 hi5 hj5 => ?_
      try simp
      have eN : (N : Int) = ws.length := by omega
      rw [hd5.take hd]
      have hdf : Dr n (m + 400) st0 _ := hd5.mono (by omega)
      refine h _ ⟨a, ws, b, max a (b + a - N) + i5⟩ hdf ⟨⟨?_, ?_, q2, ?_, ?_, ?_, ?_⟩, ?_, ?_, ?_⟩ <;> (dsimp only; omega)
def ends (a b : Int) (gs : List Int) : Lay := ⟨a, gs, b⟩
theorem r_law_layout_v1 {top : Nat} {most : Int} (hd : Dr n m st0 st) (hm : m ≤ 900000) (ht : top ≤ 1000) (h1 : 1 ≤ most) (h2 : most ≤ 10 ^ 39)
    (h : ∀ st' l, Dr n (m + 2 * top + 5) st0 st' → LyOk l → l.gaps.length ≤ top → (∀ g ∈ l.gaps, g ≤ 10 ^ 40) → l.before < 10 ^ 40 → l.behind < 10 ^ 40 → k (.d (plD l)) st') : F_law_layout_v1 [.l n, .d (.int top), .d (.int most)] st k x := by
  have hl := hd.1
  simp [F_law_layout_v1, e_run, w_law_layout_v1, sizeLine_eq]
  try simp
  refine r_takeL hd (by omega) (by omega) (by omega) fun st1 i1 hd1 hi1 hj1 => ?_
  simp
  refine ⟨by omega, by omega, ?_⟩
  try simp
  refine loopF_inv (fun ds r => ∃ (c : Nat) (gs : List Int) (st2 : Sto) (y4 : Option D), c + ds.length ≤ top ∧ gs.length = c ∧ (∀ g ∈ gs, 1 ≤ g ∧ g ≤ 10 ^ 40) ∧ Dr n (m + 1 + 2 * c) st0 st2 ∧ r = ⟨[some (.l n), some (.d (.int top)), some (.d (.int most)), some (.l st.length), y4.map R.d, none], st2 ++ [some (gs.map .int)]⟩) ?_ ?_ _ _
    ⟨0, [], st1, none, ?_, rfl, by simp, hd1, rfl⟩
  · rintro d ds r K hK ⟨c, gs, st2, y4, hc, hg, hgs, hd2, rfl⟩
    simp only [List.length_cons] at hc
    have hl2 : st2.length = st.length := by rw [hd2.len, hd.len]
    simp [sizeLine_eq, e_lstM hl2]
    try simp
    refine r_takeL hd2 (by omega) (by decide) (by decide) fun st3 i3 hd3 hi3 hj3 => ?_
    try simp
    obtain ⟨q, hq, hp⟩ := pick3 (P := fun i => 1 ≤ i ∧ i ≤ 10 ^ 39) (a := 3) (b := 12) (c := most) hi3 hj3 ⟨by decide, by decide⟩ ⟨by decide, by decide⟩ ⟨h1, h2⟩
    try simp
    rw [g_ixL, hq]
    simp
    try simp
    refine r_takeL hd3 (by omega) (by omega) (by omega) fun st4 i4 hd4 hi4 hj4 => ?_
    have hl4 : st4.length = st.length := by rw [hd4.len, hd.len]
    simp
    rw [e_lstM hl4]
    simp [uAppend, sizeLine_eq, e_setM hl4]
    refine ⟨by omega, hK _ ⟨c + 1, gs ++ [1 + i4], st4, some d, by omega, by simp [hg], fun g hgm => ?_, hd4.mono (by omega), by simp⟩⟩
    rcases List.mem_append.mp hgm with hgm | hgm
    · exact hgs g hgm
    · rw [List.mem_singleton.mp hgm]
      constructor
      · omega
      · omega
  · rintro r ⟨c, gs, st2, y4, hc, hg, hgs, hd2, rfl⟩
    simp at hc
    have hl2 : st2.length = st.length := by rw [hd2.len, hd.len]
    rcases y4 with _ | y4
    all_goals
      simp
      try simp
      refine lcI (α := Nat) (fun i => .int (0 + i)) (fun l acc st' => acc.length + l.length = 2 ∧ IntsP (fun i => 0 ≤ i ∧ i < 10 ^ 39) acc ∧ ∃ st3, Dr n (m + 1 + 2 * c + 2 * acc.length) st0 st3 ∧ st' = st3 ++ [some (gs.map .int)]) (fun a l acc st1 K X hI hK => ?_) (l := List.range 2) rfl (by simp [sizeLine_eq]) ⟨by simp, .nil, st2, by simpa using hd2, rfl⟩ (fun acc st1 hI => ?_)
      · obtain ⟨q1, q2, st3, q3, rfl⟩ := hI
        simp at q1
        simp [sizeLine_eq]
        try simp
        refine r_takeL q3 (by omega) (by decide) (by decide) fun st4 i4 hd4 hi4 hj4 => ?_
        try simp
        obtain ⟨q, hq, hp⟩ := pick3 (P := fun i => 1 ≤ i ∧ i ≤ 10 ^ 39) (a := 4) (b := 12) (c := most) hi4 hj4 ⟨by decide, by decide⟩ ⟨by decide, by decide⟩ ⟨h1, h2⟩
        try simp
        rw [g_ixL, hq]
        simp
        try simp
        refine r_takeL hd4 (by omega) (by omega) (by omega) fun st5 i5 hd5 hi5 hj5 => ?_
        have := hK (.int i5) _ ⟨by simp; omega, q2.add ⟨hi5, by omega⟩, st5, hd5.mono (by simp; omega), rfl⟩
        simpa using this
      · obtain ⟨q1, q2, st3, q3, rfl⟩ := hI
        rw [List.length_nil, Nat.add_zero] at q1
        obtain ⟨a, b, rfl, ha, hb⟩ := q2.two q1
        have hl3 : st3.length = st.length := by rw [q3.len, hd.len]
        simp [g_ixL, e_lstM hl3, e_takeM hl3, sizeLine_eq]
        have hdf : Dr n (m + 2 * top + 5) st0 st3 := q3.mono (by simp; omega)
        exact h st3 ⟨a, gs, b⟩ hdf ⟨ha.1, fun g hg' => (hgs g hg').1, by dsimp only; omega, hb.1⟩ (by dsimp only; omega) (fun g hg' => (hgs g hg').2) (by dsimp only; omega) (by dsimp only; omega)
  · simp [intR]
    omega
theorem r_law_near_v1 {f : Frm} (hd : Dr n m st0 st) (hm : m ≤ 900000) (o : FrGr f) (h : ∀ st' g, Dr n (m + 2) st0 st' → 1 ≤ g → g ≤ 10 ^ 40 → k (.d (.int g)) st') : F_law_near_v1 [.l n, .d (frD f)] st k x := by
  have h1 := o.ws
  have h2 := o.bs
  have h3 := o.as
  have h4 := o.d3
  have h5 := o.b0
  have h6 := o.a0
  have h7 := o.d1
  simp [F_law_near_v1, e_run, w_law_near_v1, frD, sizeLine_eq, g_lenS]
  refine ⟨by omega, ?_⟩
  try simp
  refine r_takeD hd (by omega) (by decide) (by decide) fun st1 i1 hd1 hi1 hj1 => ?_
  simp [g_ixL]
  have hp : ∃ c, atI [PyData.int (f.depth + 1), PyData.int (f.depth + 2), PyData.int (f.back + f.ahead), PyData.int (f.back + f.ahead + 1), PyData.int (f.back + 1), PyData.int f.depth, PyData.int 1, PyData.int (f.depth + f.word.length)] i1 = some (.int c) ∧ c ≤ 3 * 10 ^ 39 := by
    have : i1 = 0 ∨ i1 = 1 ∨ i1 = 2 ∨ i1 = 3 ∨ i1 = 4 ∨ i1 = 5 ∨ i1 = 6 ∨ i1 = 7 := by omega
    rcases this with rfl | rfl | rfl | rfl | rfl | rfl | rfl | rfl
    · exact ⟨_, rfl, by omega⟩
    · exact ⟨_, rfl, by omega⟩
    · exact ⟨_, rfl, by omega⟩
    · exact ⟨_, rfl, by omega⟩
    · exact ⟨_, rfl, by omega⟩
    · exact ⟨_, rfl, by omega⟩
    · exact ⟨_, rfl, by omega⟩
    · exact ⟨_, rfl, by omega⟩
  obtain ⟨c, hc, hcb⟩ := hp
  try simp
  rw [hc]
  simp
  try simp
  refine r_takeD hd1 (by omega) (by decide) (by decide) fun st2 i2 hd2 hi2 hj2 => ?_
  simp
  rw [hd2.take hd]
  exact h _ _ (hd2.mono (by omega)) (by omega) (by omega)
end
end Dl

/-! plain laws, part 23e: pieces of marks -/
namespace Dl
open PySem
open PySem.Spec
open PyProof.Rows
open L2
/-- marks from o on -/
def rg (o n : Nat) : List Nat := List.range' (1000 + o) n
theorem rg_len (o n : Nat) : (rg o n).length = n := by simp [rg]
theorem rg_take (o n k : Nat) : (rg o n).take k = rg o (min k n) := by
  unfold rg
  rw [List.range'_eq_map_range, List.range'_eq_map_range, ← List.map_take, List.take_range]
theorem rg_drop (o n k : Nat) : (rg o n).drop k = rg (o + k) (n - k) := by
  unfold rg
  rw [List.drop_range']
  congr 1
  omega
theorem rg_app (o a b : Nat) : rg o a ++ rg (o + a) b = rg o (a + b) := by
  unfold rg
  rw [← Nat.add_assoc]
  have := List.range'_append (s := 1000 + o) (m := a) (n := b) (step := 1)
  simpa using this
theorem rg_ints (o n : Nat) : mksD (rg o n) = (List.range n).map fun i => PyData.int ((o + i : Nat) : Int) := by
  unfold mksD rg
  rw [List.range'_eq_map_range, List.map_map]
  refine List.map_congr_left fun i _ => ?_
  show mkD (1000 + o + i) = _
  unfold mkD
  rw [if_neg (by omega)]
  congr 1
  omega
theorem rgD_marks (n : Nat) : rgD 0 (n : Int) = mksD (rg 0 n) := by
  rw [rg_ints]
  unfold rgD
  simp
theorem mksD_app (a b : List Nat) : mksD (a ++ b) = mksD a ++ mksD b := by simp [mksD]
theorem mksD_word {w : List Nat} (h : ∀ c ∈ w, c ∈ low) : mksD w = w.map sign := by
  unfold mksD
  refine List.map_congr_left fun c hc => mkD_low ?_
  have : ∀ c ∈ low, c < 1000 := by decide
  exact this c (h c hc)
structure Qs where
  o : Nat
  n : Nat
  w : List Nat
  g : Nat
def Qs.st (q : Qs) : List Nat := rg q.o q.n ++ q.w
def Qs.pc (q : Qs) : Pc := ⟨if q.n = 0 then 0 else (q.o : Int) - q.g, q.n, q.w⟩
structure QOk (q : Qs) : Prop where
  n : q.n ≤ 100
  o : q.o ≤ 1000
  w : q.w.length ≤ 100
  lo : ∀ c ∈ q.w, c ∈ low
section
variable {st st0 : Sto} {k : KS} {x : XS0} {n m : Nat}
theorem fit_marks {l : List Nat} (hn : l.length ≤ 1000) (hb : ∀ c ∈ l, c ≤ 1000000) : Fit 1 (1000 * 201) (.list (mksD l)) := fit_list (h := 0) (w := 200) (n := 1000) (fun d hd => by
  obtain ⟨c, hc, rfl⟩ := List.mem_map.mp hd
  have := hb c hc
  unfold mkD
  split
  · exact (fit_str (l := [c]) (by simp; omega)).mono (Nat.le_refl _) (by simp)
  · exact fit_int (by omega)) (by simpa [mksD] using hn)
theorem filt_int (q : Qs) (h : QOk q) : ((mksD q.st).filter (isiD "int")) = mksD (rg q.o q.n) ∧ ((mksD q.st).filter (isiD "str")) = q.w.map sign := by
  unfold Qs.st
  rw [mksD_app, mksD_word h.lo, rg_ints, List.filter_append, List.filter_append]
  constructor
  · rw [List.filter_eq_self.mpr, List.filter_eq_nil_iff.mpr, List.append_nil]
    · simp [sign_S]
    · simp
  · rw [List.filter_eq_nil_iff.mpr, List.filter_eq_self.mpr, List.nil_append]
    · simp [sign_S]
    · simp
theorem rg_tail (o n : Nat) : (mksD (rg o n)).drop 1 = mksD (rg (o + 1) (n - 1)) := by
  rw [← rg_drop]
  simp [mksD, List.map_drop]
theorem r_law_piece {q : Qs} (h : QOk q) (hk : k (.d (pcD q.pc)) st) : F_law_piece [.d (.list (mksD q.st)), .d (.int (q.g : Int))] st k x := by
  obtain ⟨f1, f2⟩ := filt_int q h
  obtain ⟨h1, h2, h3, h4⟩ := h
  have hlen : (mksD q.st).length ≤ 200 := by
    simp [mksD, Qs.st, rg_len]
    omega
  simp [F_law_piece, e_run, w_law_piece, sizeLine_eq, -e_seq]
  rw [e_seq]
  simp [-e_seq]
  refine lc1 (α := D) (l := mksD q.st) id (fun d => isiD "int" d) id (by simp) (fun d _ K X hK => by simpa using hK) (fun d _ _ K X hK => by simpa using hK) (sz (by omega)) ?_
  rw [List.map_id, f1]
  simp [-e_seq]
  rw [e_seq]
  simp [-e_seq]
  refine lc1 (α := D) (l := mksD q.st) id (fun d => isiD "str" d) id (by simp) (fun d _ K X hK => by simpa using hK) (fun d _ _ K X hK => by simpa using hK) (sz (by omega)) ?_
  rw [List.map_id, f2]
  simp [-e_seq]
  rw [e_seq]
  have fm : Fit 1 (1000 * 201) (.list (mksD q.st)) := fit_marks (by simp [Qs.st, rg_len]; omega) (by
    intro c hc
    unfold Qs.st at hc
    rcases List.mem_append.mp hc with hc | hc
    · unfold rg at hc
      have := List.mem_range'.mp hc
      omega
    · have : ∀ c ∈ low, c < 1000 := by decide
      have := this c (h4 c hc)
      omega)
  have e0 : mksD (rg q.o q.n) ++ q.w.map sign = mksD q.st := by
    unfold Qs.st
    rw [mksD_app, mksD_word h4]
  have hl0 : (mksD (rg q.o q.n)).length = q.n := by simp [mksD, rg_len]
  simp [-e_seq, e0, hl0, sizeLine_eq]
  refine ⟨by omega, ?_⟩
  refine Fit.eq fm (by decide) ?_
  simp [-e_seq, cut_fr1]
  have e1 : (mksD (rg q.o q.n)).tail = mksD (rg (q.o + 1) (q.n - 1)) := by
    rw [← rg_tail]
    simp
  rw [e1, rg_ints, rg_ints, pairs_mapP]
  refine lcP (α := Nat × Nat) (l := (List.range q.n).zip (List.range (q.n - 1))) (fun p => .int ((q.o + p.1 : Nat) : Int)) (fun p => .int ((q.o + 1 + p.2 : Nat) : Int)) (fun p => false) (fun _ => .int 1) rfl (by decide) (fun p hp K X hK => ?_) (fun p _ hf => by simp at hf) (by rw [sizeLine_eq, List.length_zip]; simp; omega) ?_ (by
    intro v hv _
    simp at hv
    rcases hv with rfl | rfl <;> rfl)
  · have hpp : p.1 = p.2 := by
      obtain ⟨i, hi⟩ := List.mem_iff_getElem?.mp hp
      rw [List.getElem?_zip_eq_some] at hi
      obtain ⟨a1, a2⟩ := hi
      rw [List.getElem?_eq_some_iff] at a1 a2
      obtain ⟨_, a1⟩ := a1
      obtain ⟨_, a2⟩ := a2
      rw [← a1, ← a2]
      simp
    have e3 : ((q.o + 1 + p.2 : Nat) : Int) = ((q.o + p.1 : Nat) : Int) + 1 := by omega
    simp only [e_cmpT]
    simp only [e3] at hK ⊢
    simp [g_ne]
    simpa using hK
  · have ef : ((List.range q.n).zip (List.range (q.n - 1))).filter (fun _ => false) = [] := List.filter_eq_nil_iff.mpr (by simp)
    rw [ef]
    simp [-e_seq, sizeLine_eq]
    have fn : Fit 1 (1000 * 201) (.list []) := fit_list (h := 0) (w := 200) (n := 1000) (by simp) (by simp)
    refine Fit.eq fn (by decide) ?_
    simp [sizeLine_eq]
    have es : strsD (q.w.map sign) = some (q.w.map fun c => S [c]) := strsD_map (fun c => S [c]) q.w
    have fk : Fit 1 (1000 * 201) (.list ((List.range q.n).map fun i => PyData.int ((q.o + i : Nat) : Int))) := by
      rw [← rg_ints]
      refine fit_marks (by rw [rg_len]; omega) (by
        intro c hc
        unfold rg at hc
        have := List.mem_range'.mp hc
        omega)
    refine g_neNil fk (by decide) ?_
    by_cases hn : q.n = 0
    · simp [hn, sizeLine_eq]
      rw [mJ es, sum_ones, join_nil]
      refine ⟨by simp; omega, ?_⟩
      simpa [pcD, Qs.pc, hn] using hk
    · obtain ⟨n', hn'⟩ : ∃ n', q.n = n' + 1 := ⟨q.n - 1, by omega⟩
      rw [hn', List.range_succ_eq_map]
      simp [sizeLine_eq]
      rw [mJ es, sum_ones, join_nil]
      refine ⟨by simp; omega, ?_⟩
      simpa [pcD, Qs.pc, hn'] using hk
end
end Dl

/-! plain laws, part 23f: what a run on marks leaves -/
namespace Dl
open PySem
open PySem.Spec
open PyProof.Rows
open L2
def spotsF : Nat → List Nat → List Nat
  | a, [] => [a]
  | a, g :: gs => a :: spotsF (a + g) gs
theorem spotsF_len : ∀ (gs : List Nat) (a : Nat), (spotsF a gs).length = gs.length + 1
  | [], _ => rfl
  | g :: gs, a => congrArg (· + 1) (spotsF_len gs (a + g))
theorem spotsF_last : ∀ (gs : List Nat) (a : Nat), (spotsF a gs).getLast? = some (a + gs.sum)
  | [], a => by simp [spotsF]
  | g :: gs, a => by
    have ih := spotsF_last gs (a + g)
    show (a :: spotsF (a + g) gs).getLast? = _
    rw [List.getLast?_cons, ih]
    simp
    omega
/-- gaps with their places -/
def Lk (b : Nat) (gs : List Nat) : List (Nat × Nat) := (spotsF b gs).zip gs
theorem Lk_cons (b g : Nat) (gs : List Nat) : Lk b (g :: gs) = (b, g) :: Lk (b + g) gs := rfl
theorem Lk_snd : ∀ (gs : List Nat) (b : Nat), (Lk b gs).map (·.2) = gs
  | [], _ => rfl
  | g :: gs, b => by rw [Lk_cons, List.map_cons, Lk_snd gs]
theorem Lk_bd : ∀ (gs : List Nat) (b : Nat), ∀ p ∈ Lk b gs, b ≤ p.1 ∧ p.1 + p.2 ≤ b + gs.sum ∧ p.2 ∈ gs
  | [], _, p, h => by cases h
  | g :: gs, b, p, h => by
    rw [Lk_cons] at h
    rcases List.mem_cons.mp h with rfl | h
    · simp
    · obtain ⟨h1, h2, h3⟩ := Lk_bd gs (b + g) p h
      simp
      exact ⟨by omega, by omega, .inr h3⟩
def markS (b : Nat) (gs : List Nat) (e : Nat) : List (List Nat) := rg 0 b :: ((Lk b gs).map (fun p => rg p.1 p.2) ++ [rg (b + gs.sum) e])
theorem sums_marks : ∀ (gs : List Nat) (b : Nat) (t : List Nat) (a : Nat) (s : List Nat), b = a + s.length → sums a (s :: ((Lk b gs).map (fun p => rg p.1 p.2) ++ [t])) = spotsF b gs
  | [], b, t, a, s, h => by
    show [a + s.length] = [b]
    rw [h]
  | g :: gs, b, t, a, s, h => by
    rw [Lk_cons, List.map_cons, List.cons_append]
    show (a + s.length) :: sums (a + s.length) (rg b g :: ((Lk (b + g) gs).map (fun p => rg p.1 p.2) ++ [t])) = b :: spotsF (b + g) gs
    rw [← h, sums_marks gs (b + g) t b (rg b g) (by rw [rg_len])]
theorem flat_marks : ∀ (gs : List Nat) (b e : Nat), ((Lk b gs).map (fun p => rg p.1 p.2) ++ [rg (b + gs.sum) e]).flatten = rg b (gs.sum + e)
  | [], b, e => by simp [Lk, spotsF]
  | g :: gs, b, e => by
    have ih := flat_marks gs (b + g) e
    have e1 : b + (g :: gs).sum = b + g + gs.sum := by simp; omega
    rw [Lk_cons, List.map_cons, List.cons_append, List.flatten_cons, e1, ih, rg_app]
    congr 1
    simp
    omega
theorem markS_flat (b : Nat) (gs : List Nat) (e : Nat) : (markS b gs e).flatten = rg 0 (b + (gs.sum + e)) := by
  unfold markS
  rw [List.flatten_cons, flat_marks]
  have := rg_app 0 b (gs.sum + e)
  rwa [Nat.zero_add] at this
theorem markS_sums (b : Nat) (gs : List Nat) (e : Nat) : sums 0 (markS b gs e) = spotsF b gs := sums_marks gs b _ 0 (rg 0 b) (by rw [rg_len]; omega)
theorem markS_ok {b : Nat} {gs : List Nat} {e : Nat} (h : ∀ g ∈ gs, 1 ≤ g) : SOk (markS b gs e) := ⟨_, _, _, rfl, fun u hu => by
  obtain ⟨p, hp, rfl⟩ := List.mem_map.mp hu
  have := (Lk_bd gs b p hp).2.2
  have := h _ this
  intro z
  have := congrArg List.length z
  rw [rg_len] at this
  simp at this
  omega⟩
/-- the stretches afterwards -/
def qsF (f : Fm) (b : Nat) (gs : List Nat) (e : Nat) : List Qs :=
  ⟨0, b - f.back, f.word, 0⟩ :: (((Lk b gs).filter fun p => decide (f.depth < p.2)).map (fun p => ⟨p.1 + f.ahead, p.2 - f.back - f.ahead, f.word.drop (f.ahead - (p.2 - f.back)), p.1⟩) ++ [⟨b + gs.sum + f.ahead, e - f.ahead, [], b + gs.sum⟩])
theorem qs_form (f : Fm) (b : Nat) (gs : List Nat) (e : Nat) : formRes f (rg 0 b) ((Lk b gs).map fun p => rg p.1 p.2) (rg (b + gs.sum) e) = (qsF f b gs e).map Qs.st := by
  unfold formRes qsF keptF
  rw [List.map_cons, List.map_append, List.map_map, List.filter_map, List.map_map]
  have h1 : (rg 0 b).take ((rg 0 b).length - f.back) ++ f.word = Qs.st ⟨0, b - f.back, f.word, 0⟩ := by
    rw [rg_len, rg_take]
    unfold Qs.st
    dsimp only
    congr 2
    omega
  have h2 : [(rg (b + gs.sum) e).drop f.ahead] = [⟨b + gs.sum + f.ahead, e - f.ahead, [], b + gs.sum⟩].map Qs.st := by
    rw [rg_drop]
    simp [Qs.st]
  rw [h1, h2]
  congr 2
  have e1 : ((fun (g : List Nat) => decide (f.depth < (g.length : Int))) ∘ fun (p : Nat × Nat) => rg p.1 p.2) = fun p => decide (f.depth < p.2) := by
    funext p
    show decide (f.depth < ((rg p.1 p.2).length : Nat)) = _
    rw [rg_len]
  rw [e1]
  refine List.map_congr_left fun p _ => ?_
  show gapF f (rg p.1 p.2) = Qs.st ⟨p.1 + f.ahead, p.2 - f.back - f.ahead, f.word.drop (f.ahead - (p.2 - f.back)), p.1⟩
  unfold gapF Qs.st
  rw [rg_len, rg_take, List.drop_append, rg_len, rg_drop]
  dsimp only
  congr 2
  · omega
  · congr 1
    omega
theorem frm_word {f : Fm} (h : FmI f) : ∀ c ∈ f.word, c ∈ low := h.lo
def frmOf (f : Fm) : Frm := ⟨f.back, f.word, f.ahead, f.depth⟩
def layN (b : Nat) (gs : List Nat) (e : Nat) : Lay := ⟨b, gs.map Int.ofNat, e⟩
theorem qs_pieces {f : Fm} (h : FmI f) (b : Nat) (gs : List Nat) (e : Nat) : (qsF f b gs e).map Qs.pc = pieces (layN b gs e) (frmOf f) := by
  unfold qsF pieces layN frmOf
  rw [List.map_cons, List.map_append, List.map_map]
  dsimp only
  have h1 : Qs.pc ⟨0, b - f.back, f.word, 0⟩ = ⟨0, max 0 ((b : Int) - f.back), f.word⟩ := by
    unfold Qs.pc
    dsimp only
    have : ((b - f.back : Nat) : Int) = max 0 ((b : Int) - f.back) := by omega
    rw [this]
    split <;> rfl
  have h2 : [⟨b + gs.sum + f.ahead, e - f.ahead, [], b + gs.sum⟩].map Qs.pc = [⟨if (f.ahead : Int) < e then (f.ahead : Int) else 0, max 0 ((e : Int) - f.ahead), []⟩] := by
    rw [List.map_singleton]
    unfold Qs.pc
    dsimp only
    have e1 : ((e - f.ahead : Nat) : Int) = max 0 ((e : Int) - f.ahead) := by omega
    have e2 : ((b + gs.sum + f.ahead : Nat) : Int) - ((b + gs.sum : Nat) : Int) = f.ahead := by omega
    rw [e1, e2]
    congr 2
    by_cases hh : (f.ahead : Int) < e
    · rw [if_pos hh, if_neg (by omega)]
    · rw [if_neg hh, if_pos (by omega)]
  rw [h1, h2]
  congr 2
  have hs := Lk_snd gs b
  have e3 : (gs.map Int.ofNat).filter (fun g => decide (f.depth < g)) = ((Lk b gs).filter fun p => decide (f.depth < p.2)).map (fun p => Int.ofNat p.2) := by
    conv => lhs; rw [← hs]
    rw [List.map_map, List.filter_map]
    rfl
  rw [e3, List.map_map]
  refine List.map_congr_left fun p hp => ?_
  have hp2 := (List.mem_filter.mp hp).2
  simp at hp2
  have hb := h.b
  show Qs.pc ⟨p.1 + f.ahead, p.2 - f.back - f.ahead, f.word.drop (f.ahead - (p.2 - f.back)), p.1⟩ = gapPiece ⟨f.back, f.word, f.ahead, f.depth⟩ (Int.ofNat p.2)
  unfold Qs.pc gapPiece
  dsimp only
  have e4 : (Int.ofNat p.2 : Int) = (p.2 : Int) := rfl
  rw [e4]
  by_cases hh : (f.ahead : Int) < (p.2 : Int) - f.back
  · rw [if_pos hh, if_neg (by omega)]
    have e5 : f.ahead - (p.2 - f.back) = 0 := by omega
    rw [e5, List.drop_zero]
    congr 1
    · omega
    · omega
  · rw [if_neg hh, if_pos (by omega)]
    congr 1
    · omega
    · congr 1
      omega
theorem qs_orgs (f : Fm) (b : Nat) (gs : List Nat) (e : Nat) : (qsF f b gs e).map Qs.g = 0 :: (((Lk b gs).filter fun p => decide (f.depth < p.2)).map (·.1) ++ [b + gs.sum]) := by
  unfold qsF
  rw [List.map_cons, List.map_append, List.map_map]
  rfl
theorem qs_ok {f : Fm} (h : FmI f) (hw : f.word.length ≤ 60) (ha : f.ahead ≤ 60) {b : Nat} {gs : List Nat} {e : Nat} (hb : b ≤ 100) (he : e ≤ 100) (hg : gs.sum ≤ 100) : ∀ q ∈ qsF f b gs e, QOk q := by
  intro q hq
  unfold qsF at hq
  rcases List.mem_cons.mp hq with rfl | hq
  · exact ⟨by dsimp only; omega, by dsimp only; omega, by dsimp only; omega, h.lo⟩
  · rcases List.mem_append.mp hq with hq | hq
    · obtain ⟨p, hp, rfl⟩ := List.mem_map.mp hq
      have := Lk_bd gs b p (List.mem_filter.mp hp).1
      refine ⟨by dsimp only; omega, by dsimp only; omega, ?_, fun c hc => h.lo c (List.mem_of_mem_drop hc)⟩
      dsimp only
      rw [List.length_drop]
      omega
    · rw [List.mem_singleton] at hq
      subst hq
      exact ⟨by dsimp only; omega, by dsimp only; omega, by simp, by simp⟩
def endsF : Nat → List (List Nat) → List Nat
  | _, [] => []
  | a, s :: r => (a + s.length) :: endsF (a + s.length) r
theorem ends_sums : ∀ (r : List (List Nat)) (s : List Nat) (a : Nat), sums a (s :: r) ++ [a + (s :: r).flatten.length] = endsF a (s :: r)
  | [], s, a => by simp [sums, endsF]
  | t :: r, s, a => by
    have ih := ends_sums r t (a + s.length)
    show (a + s.length) :: sums (a + s.length) (t :: r) ++ _ = (a + s.length) :: endsF (a + s.length) (t :: r)
    rw [← ih, List.flatten_cons (l := s), List.length_append, Nat.add_assoc]
    rfl
theorem endsF_len : ∀ (r : List (List Nat)) (a : Nat), (endsF a r).length = r.length
  | [], _ => rfl
  | s :: r, a => congrArg (· + 1) (endsF_len r _)
theorem ends_diff : ∀ (r : List (List Nat)) (a : Nat), ((a :: endsF a r).zip (endsF a r)).map (fun p => (p.2 : Int) - p.1) = r.map fun s => (s.length : Int)
  | [], _ => rfl
  | s :: r, a => by
    have ih := ends_diff r (a + s.length)
    show ((a :: (a + s.length) :: endsF (a + s.length) r).zip ((a + s.length) :: endsF (a + s.length) r)).map _ = _
    rw [List.zip_cons_cons, List.map_cons, ih, List.map_cons]
    congr 1
    omega
end Dl

/-! plain laws, part 23g: the law's own answer -/
namespace Dl
open PySem
open PySem.Spec
open PyProof.Rows
open L2
section
variable {st st0 : Sto} {k : KS} {x : XS0} {n m : Nat}
@[simp ↓] theorem e_zipN {wr : WA} {sl : List (Option R)} {st : Sto} {kl : List D → Env → Prop} {x : XQ} : wZipN wr ⟨sl, st⟩ kl x = wr ⟨sl, st⟩ (fun ys r1 => frzs ys r1 fun ds r2 => match ds with
  | [.list a, .tuple b] => kl (pairs a b) r2
  | _ => False) x := Eq.trans rfl rfl
theorem natsD_len (l : List Nat) : (natsD l).length = l.length := by simp [natsD]
theorem r_law_due {f : Fm} {b e : Nat} {gs row : List Nat} (hf : formS row = f) (hr : Row 60 row) (hrl : row.length ≤ 20) (hg1 : ∀ g ∈ gs, 1 ≤ g) (hgl : gs.length ≤ 20) (hb : b ≤ 100) (he : e ≤ 100) (hg : gs.sum ≤ 100)
    (hw : f.word.length ≤ 60) (ha : f.ahead ≤ 60)
    (hk : k (.d (.tuple [.list ((pieces (layN b gs e) (frmOf f)).map pcD), layD (sizesD (layN b gs e) (frmOf f))])) st) :
    F_law_due [.d (.tuple [.int (b : Int), .tuple (natsD gs), .int (e : Int)]), .d (.str (S row))] st k x := by
  have hI : FmI f := by rw [← hf]; exact formI row
  have hres : pressS (markS b gs e) row = (qsF f b gs e).map Qs.st := by
    unfold markS
    rw [press_form _ _ _ ?_ row fun c hc => still_of (hr.2 c hc), hf, qs_form]
    obtain ⟨s, m, t, e1, h1⟩ := markS_ok (b := b) (e := e) hg1
    unfold markS at e1
    injection e1 with _ e2
    have e3 := congrArg List.dropLast e2
    rw [List.dropLast_concat, List.dropLast_concat] at e3
    rw [e3]
    exact h1
  have hqk := qs_ok hI hw ha (b := b) (gs := gs) (e := e) hb he hg
  have hql : (qsF f b gs e).length ≤ 22 := by
    unfold qsF
    have h1 := List.length_filter_le (fun p => decide (f.depth < ((p : Nat × Nat).2 : Int))) (Lk b gs)
    have h2 : (Lk b gs).length = gs.length := by rw [← List.length_map (f := (·.2)), Lk_snd]
    simp only [List.length_cons, List.length_append, List.length_map, List.length_nil]
    omega
  have hsl := spotsF_len gs b
  simp [F_law_due, e_run, w_law_due, sizeLine_eq, -e_seq]
  rw [e_seq]
  simp [-e_seq]
  rw [e_seq]
  simp [-e_seq, sizeLine_eq]
  rw [e_seq]
  simp [-e_seq, sizeLine_eq]
  refine loopF_inv (fun ds r => ∃ (pre gs' : List Nat) (a : Nat) (y7 : Option D), ds = natsD gs' ∧ pre ++ spotsF a gs' = spotsF b gs ∧
    r = ⟨[some (.d (.tuple [.int (b : Int), .tuple (natsD gs), .int (e : Int)])), some (.d (.str (S row))), some (.d (.int (b : Int))), some (.d (.tuple (natsD gs))), some (.d (.int (e : Int))), some (.l st.length), some (.l (st.length + 1)), y7.map R.d, none, none, none, none, none, none, none, none, none, none, none],
      st ++ [some (natsD (pre ++ [a])), some (natsD (0 :: (pre ++ [a])))]⟩) ?_ ?_ _ _ ⟨[], gs, b, none, rfl, rfl, by simp [natsD]⟩
  · rintro d ds r K hK ⟨pre, gs', a, y7, hds, hp, rfl⟩
    cases gs' with
    | nil => simp [natsD] at hds
    | cons g gs' =>
      simp only [natsD, List.map_cons, List.cons.injEq] at hds
      obtain ⟨rfl, rfl⟩ := hds
      have hpl : pre.length + 1 ≤ gs.length + 1 := by
        have := congrArg List.length hp
        rw [List.length_append, spotsF_len, spotsF_len] at this
        simp at this
        omega
      have e1 : (natsD (pre ++ [a])).getLast? = some (.int (a : Int)) := by simp [natsD]
      have e2 : (natsD (pre ++ [a]) ++ [PyData.int ((a : Int) + g)]) = natsD (pre ++ [a] ++ [a + g]) := by simp [natsD]
      have e3 : (natsD (pre ++ [a] ++ [a + g])).getLast? = some (.int ((a + g : Nat) : Int)) := by simp [natsD]
      have e4 : (natsD (0 :: (pre ++ [a])) ++ [PyData.int ((a + g : Nat) : Int)]) = natsD (0 :: (pre ++ [a] ++ [a + g])) := by simp [natsD]
      have l1 : (natsD (pre ++ [a])).length ≤ 100 := by rw [natsD_len]; simp; omega
      have l2 : (natsD (0 :: (pre ++ [a]))).length ≤ 100 := by rw [natsD_len]; simp; omega
      generalize natsD (pre ++ [a]) = A at *
      generalize natsD (0 :: (pre ++ [a])) = B at *
      simp [g_ixL, e1, uAppend, sizeLine_eq, e2]
      refine ⟨by omega, ?_⟩
      refine ⟨by omega, hK _ ⟨pre ++ [a], gs', a + g, some (.int (g : Int)), rfl, by rw [← hp]; simp [spotsF], ?_⟩⟩
      have e4' := e4
      simp at e4'
      simp [e4']
  · rintro r ⟨pre, gs', a, y7, hds, hp, rfl⟩
    have hn : gs' = [] := by simpa [natsD] using hds.symm
    subst hn
    have hpa : pre ++ [a] = spotsF b gs := hp
    have hal : a = b + gs.sum := by
      have h1 := spotsF_last gs b
      rw [← hpa, List.getLast?_concat] at h1
      exact Option.some.inj h1
    have e1 : (natsD (spotsF b gs)).getLast? = some (.int ((b + gs.sum : Nat) : Int)) := by
      unfold natsD
      rw [List.getLast?_map, spotsF_last]
      rfl
    rw [hpa]
    have hsn : (natsD (spotsF b gs)).length = gs.length + 1 := by rw [natsD_len, spotsF_len]
    generalize natsD (0 :: spotsF b gs) = F1
    generalize hS0 : spotsF b gs = sp at *
    have hsok := markS_ok (b := b) (e := e) hg1
    have hsf := markS_flat b gs e
    have hss := markS_sums b gs e
    rw [hS0] at hss
    simp [-e_seq, g_ixL, e1, sizeLine_eq]
    rw [e_seq]
    have ern : rgD 0 ((b : Int) + gs.sum + e) = mksD (markS b gs e).flatten := by
      rw [hsf, ← rgD_marks]
      congr 1
      omega
    simp [-e_seq, g_ixL, e1, sizeLine_eq]
    refine ⟨⟨by omega, by omega, by omega, by omega, by omega⟩, ?_⟩
    rw [ern, ← hss]
    have hmk : MOk 300 24 (markS b gs e) := ⟨hsok, by rw [hsf, rg_len]; omega, by
      unfold markS
      have h2 : (Lk b gs).length = gs.length := by rw [← List.length_map (f := (·.2)), Lk_snd]
      simp only [List.length_cons, List.length_append, List.length_map, List.length_nil]
      omega⟩
    refine r_law_pressedM hmk (fun c hc => (hr.2 c hc).1) (by omega) (by decide) (by omega) ?_
    rw [hres]
    have hss2 : sums 0 (markS b gs e) = sp := hss
    rw [hss2]
    have eq1 := qs_orgs f b gs e
    have eq2 := qs_pieces hI b gs e
    obtain ⟨q0, qr, hqs⟩ : ∃ q0 qr, qsF f b gs e = q0 :: qr := ⟨_, _, rfl⟩
    have hends := ends_sums (qr.map Qs.st) q0.st 0
    rw [Nat.zero_add] at hends
    have hQ : (qsF f b gs e).map Qs.st = q0.st :: qr.map Qs.st := by rw [hqs]; rfl
    rw [← hQ] at hends
    have hln : ((qsF f b gs e).map Qs.st).flatten.length ≤ 22 * 200 := by
      have : ∀ (l : List Qs), (∀ q ∈ l, QOk q) → (l.map Qs.st).flatten.length ≤ l.length * 200 := by
        intro l
        induction l with
        | nil => simp
        | cons q l ih =>
          intro h
          have h1 := ih fun q' hq' => h q' (List.mem_cons_of_mem _ hq')
          have h2 := h q (by simp)
          rw [List.map_cons, List.flatten_cons, List.length_append, List.length_cons, Nat.add_mul]
          have h3 : q.st.length ≤ 200 := by
            have := h2.n
            have := h2.w
            unfold Qs.st
            rw [List.length_append, rg_len]
            omega
          omega
      exact Nat.le_trans (this _ hqk) (Nat.mul_le_mul_right _ hql)
    generalize hM : ((qsF f b gs e).map Qs.st).flatten = M at *
    have hMl : (mksD M).length = M.length := by simp [mksD]
    have hlater : (natsD (sums 0 ((qsF f b gs e).map Qs.st))).length ≤ 30 := by
      rw [natsD_len, sums_len, List.length_map]
      omega
    have hends2 : natsD (sums 0 ((qsF f b gs e).map Qs.st)) ++ [PyData.int (M.length : Nat)] = natsD (endsF 0 ((qsF f b gs e).map Qs.st)) := by
      rw [← hends]
      simp [natsD]
    generalize hLt : natsD (sums 0 ((qsF f b gs e).map Qs.st)) = LT at *
    simp [-e_seq, hMl]
    rw [e_seq]
    simp [-e_seq, hMl, sizeLine_eq, hends2]
    refine ⟨by omega, ?_⟩
    rw [e_seq]
    simp [-e_seq]
    refine r_law_form hr ?_
    rw [hf]
    simp [-e_seq, fmD]
    rw [e_seq]
    simp [-e_seq]
    refine ⟨sz (by decide), ?_⟩
    have ekm : Option.map (R.kill st.length (PyData.list (natsD sp)) ∘ R.d) y7 = y7.map R.d := by cases y7 <;> rfl
    rw [ekm]
    have epr : pairs (natsD sp) (natsD gs) = (Lk b gs).map fun p => .tuple [.int (p.1 : Int), .int (p.2 : Int)] := by
      unfold natsD
      rw [pairs_mapP, ← hS0]
      rfl
    have hlk : (Lk b gs).length = gs.length := by rw [← List.length_map (f := (·.2)), Lk_snd]
    have hf1 := List.length_filter_le (fun p => decide (f.depth < ((p : Nat × Nat).2 : Int))) (Lk b gs)
    refine lcP (α := Nat × Nat) (l := Lk b gs) (fun p => .int (p.1 : Int)) (fun p => .int (p.2 : Int)) (fun p => decide (f.depth < (p.2 : Int))) (fun p => .int (p.1 : Int)) epr (by decide) (fun p _ K X hK => by simpa using hK) (fun p _ _ K X hK => by simpa using hK) (by rw [sizeLine_eq]; omega) ?_ (by
      intro v hv _
      simp at hv
      rcases hv with rfl | rfl
      · rfl
      · cases y7 <;> rfl)
    have eorg : (PyData.int 0 :: ((Lk b gs).filter fun p => decide (f.depth < (p.2 : Int))).map (fun p => PyData.int (p.1 : Int))) ++ [PyData.int ((b : Int) + gs.sum)] = (qsF f b gs e).map fun q => .int (q.g : Int) := by
      have := congrArg (List.map fun (i : Nat) => PyData.int (i : Int)) eq1
      rw [List.map_map] at this
      rw [show ((qsF f b gs e).map fun q => PyData.int (q.g : Int)) = (qsF f b gs e).map ((fun (i : Nat) => PyData.int (i : Int)) ∘ Qs.g) from rfl, this]
      simp
    simp only [List.length_map]
    refine ⟨by rw [sizeLine_eq]; omega, ?_⟩
    simp [-e_seq, g_ixL, e1, sizeLine_eq]
    refine ⟨by omega, ?_⟩
    rw [show (PyData.int 0 :: ((((Lk b gs).filter fun p => decide (f.depth < (p.2 : Int))).map (fun p => PyData.int (p.1 : Int))) ++ [PyData.int ((b : Int) + gs.sum)])) = (qsF f b gs e).map fun q => .int (q.g : Int) from eorg]
    rw [e_seq]
    simp [-e_seq]
    generalize hqq : qsF f b gs e = qs at *
    generalize PyData.tuple [PyData.int (b : Int), PyData.tuple (natsD gs), PyData.int (e : Int)] = PL at *
    refine loopF_inv (fun ds r => ∃ (done rest : List Qs) (y15 y16 : Option D), qs = done ++ rest ∧ ds = pairs (natsD (endsF (done.map Qs.st).flatten.length (rest.map Qs.st))) (rest.map fun q => .int (q.g : Int)) ∧
      r = ⟨[some (.d PL), some (.d (.str (S row))), some (.d (.int (b : Int))), some (.d (.tuple (natsD gs))), some (.d (.int (e : Int))), some (.d (.list (natsD sp))), some (.l (st.length + 1)), y7.map R.d, some (.d (.list (mksD M))), some (.d (.list LT)), some (.d (.list (natsD (endsF 0 (qs.map Qs.st))))), some (.l (st.length + 2)), some (.d (.int ((done.map Qs.st).flatten.length : Nat))), some (.d (.int f.depth)), some (.d (.list (qs.map fun q => .int (q.g : Int)))), y15.map R.d, y16.map R.d, none, none],
        st ++ [none, some F1, some ((done.map Qs.pc).map pcD)]⟩) ?_ ?_ _ _ ⟨[], qs, none, none, rfl, rfl, rfl⟩
    · rintro d ds r K hK ⟨done, rest, y15, y16, hq, hds, rfl⟩
      cases rest with
      | nil => simp [natsD, endsF, pairs] at hds
      | cons q rest =>
        have hqo : QOk q := hqk q (by rw [hq]; simp)
        have hdl : done.length ≤ 22 := by
          have := congrArg List.length hq
          rw [List.length_append] at this
          omega
        have hd1 : d = .tuple [.int (((done.map Qs.st).flatten.length + q.st.length : Nat) : Int), .int (q.g : Int)] ∧ ds = pairs (natsD (endsF ((done.map Qs.st).flatten.length + q.st.length) (rest.map Qs.st))) (rest.map fun q => .int (q.g : Int)) := by
          have h2 : d :: ds = .tuple [.int (((done.map Qs.st).flatten.length + q.st.length : Nat) : Int), .int (q.g : Int)] :: pairs (natsD (endsF ((done.map Qs.st).flatten.length + q.st.length) (rest.map Qs.st))) (rest.map fun q => .int (q.g : Int)) := hds
          injection h2 with h3 h4
          exact ⟨h3, h4⟩
        obtain ⟨rfl, rfl⟩ := hd1
        have hcut : cut (mksD M) (some (((done.map Qs.st).flatten.length : Nat) : Int)) (some (((done.map Qs.st).flatten.length + q.st.length : Nat) : Int)) = mksD q.st := by
          rw [cut_nat]
          have hM2 : M = (done.map Qs.st).flatten ++ (q.st ++ (rest.map Qs.st).flatten) := by
            rw [← hM, hq, List.map_append, List.flatten_append, List.map_cons, List.flatten_cons]
          rw [hMl, hM2]
          simp only [List.length_append]
          rw [Nat.min_eq_left (by omega), Nat.min_eq_left (by omega), mksD_app, mksD_app]
          have hml : ∀ l : List Nat, (mksD l).length = l.length := fun l => List.length_map ..
          rw [List.drop_left' (hml _)]
          rw [List.take_left' (by rw [hml]; omega)]
        have hfl : ((done ++ [q]).map Qs.st).flatten.length = (done.map Qs.st).flatten.length + q.st.length := by
          rw [List.map_append, List.flatten_append, List.length_append]
          simp only [List.map_cons, List.map_nil, List.flatten_cons, List.flatten_nil, List.append_nil]
        have hpc : (List.map pcD (List.map Qs.pc done)).length = done.length := by simp
        generalize hLO : (done.map Qs.st).flatten.length = LO at *
        generalize hHI : LO + q.st.length = HI at *
        simp [-e_seq]
        rw [e_seq]
        simp [-e_seq]
        rw [hcut]
        refine r_law_piece hqo ?_
        simp [-e_seq, uAppend, sizeLine_eq]
        refine ⟨by omega, hK _ ⟨done ++ [q], rest, some (.int (HI : Int)), some (.int (q.g : Int)), by rw [hq]; simp, by rw [hfl], ?_⟩⟩
        rw [hfl]
        simp
    · rintro r ⟨done, rest, y15, y16, hq, hds, rfl⟩
      have hn : rest = [] := by
        cases rest with
        | nil => rfl
        | cons q rest => simp [natsD, endsF, pairs] at hds
      subst hn
      rw [List.append_nil] at hq
      subst hq
      simp [-e_seq]
      rw [e_seq]
      simp [-e_seq, sizeLine_eq]
      refine ⟨by omega, ?_⟩
      have eLT : PyData.int 0 :: LT = natsD (0 :: sums 0 (qs.map Qs.st)) := by
        rw [← hLt]
        rfl
      have hel := endsF_len (qs.map Qs.st) 0
      have hsl2 : (0 :: sums 0 (qs.map Qs.st)).length = (endsF 0 (qs.map Qs.st)).length := by
        rw [← hends]
        simp
      have hzip : (0 :: sums 0 (qs.map Qs.st)).zip (endsF 0 (qs.map Qs.st)) = (0 :: endsF 0 (qs.map Qs.st)).zip (endsF 0 (qs.map Qs.st)) := by
        have := zip_snoc (0 :: sums 0 (qs.map Qs.st)) (endsF 0 (qs.map Qs.st)) M.length hsl2
        rw [← this, List.cons_append, hends]
      have epr2 : pairs (PyData.int 0 :: LT) (natsD (endsF 0 (qs.map Qs.st))) = ((0 :: endsF 0 (qs.map Qs.st)).zip (endsF 0 (qs.map Qs.st))).map fun p => .tuple [.int (p.1 : Int), .int (p.2 : Int)] := by
        rw [eLT, ← hzip]
        unfold natsD
        rw [pairs_mapP]
      have hzl : ((0 :: endsF 0 (qs.map Qs.st)).zip (endsF 0 (qs.map Qs.st))).length ≤ 22 := by
        rw [List.length_zip, hel, List.length_map]
        omega
      refine lcP (α := Nat × Nat) (l := (0 :: endsF 0 (qs.map Qs.st)).zip (endsF 0 (qs.map Qs.st))) (fun p => .int (p.1 : Int)) (fun p => .int (p.2 : Int)) (fun _ => true) (fun p => .int ((p.2 : Int) - p.1)) epr2 (by decide) (fun p _ K X hK => by simpa using hK) (fun p _ _ K X hK => by simpa using hK) (by rw [sizeLine_eq]; omega) ?_ (by
        intro v hv _
        simp at hv
        rcases hv with rfl | rfl
        · rfl
        · cases y15 <;> rfl)
      rw [List.filter_eq_self.mpr (fun _ _ => rfl)]
      have esz : (((0 :: endsF 0 (qs.map Qs.st)).zip (endsF 0 (qs.map Qs.st))).map fun p => PyData.int ((p.2 : Int) - p.1)) = (sizesD (layN b gs e) (frmOf f)).map .int := by
        have h1 := congrArg (List.map PyData.int) (ends_diff (qs.map Qs.st) 0)
        rw [List.map_map] at h1
        rw [show (((0 :: endsF 0 (qs.map Qs.st)).zip (endsF 0 (qs.map Qs.st))).map fun p => PyData.int ((p.2 : Int) - p.1)) = (((0 :: endsF 0 (qs.map Qs.st)).zip (endsF 0 (qs.map Qs.st))).map (PyData.int ∘ fun p => ((p.2 : Int) - p.1))) from rfl, h1]
        unfold sizesD
        rw [← eq2, List.map_map, List.map_map, List.map_map, List.map_map]
        refine List.map_congr_left fun q hq => ?_
        show PyData.int ((q.st.length : Nat) : Int) = .int (sizeP q.pc)
        unfold Qs.st Qs.pc sizeP
        rw [List.length_append, rg_len]
        simp
      rw [esz]
      have eq2' : List.map (pcD ∘ Qs.pc) qs = (pieces (layN b gs e) (frmOf f)).map pcD := by
        rw [← eq2, List.map_map]
      rw [eq2']
      have hnsz : sizesD (layN b gs e) (frmOf f) ≠ [] := by simp [sizesD, pieces]
      generalize sizesD (layN b gs e) (frmOf f) = Z at *
      generalize (pieces (layN b gs e) (frmOf f)).map pcD = PP at *
      cases Z with
      | nil => exact absurd rfl hnsz
      | cons z0 zr =>
        simp [g_ixL, sizeLine_eq, cut_mid]
        have e3 : (PyData.int z0 :: List.map PyData.int zr).getLast? = some (.int ((z0 :: zr).getLastD 0)) := by
          rw [← List.map_cons, List.getLast?_map, List.getLastD_eq_getLast?, List.getLast?_cons]
          rfl
        rw [e3]
        simpa [layD, List.map_dropLast] using hk
end
end Dl

/-! plain law k24, the end -/
namespace Dl
open PySem
open PySem.Spec
open PyProof.Rows
open L2
section
variable {st st0 : Sto} {k : KS} {x : XS0} {n m : Nat}
theorem nice_pc (l : List Pc) (hl : l.length ≤ 1000000) : nice 7 (.list (l.map pcD)) := by
  refine ⟨by simpa using hl, fun d hd => ?_⟩
  obtain ⟨p, _, rfl⟩ := List.mem_map.mp hd
  exact ⟨by simp, by simp [nice]⟩
theorem nice_lay (s : List Int) (hl : s.length ≤ 1000000) : nice 7 (layD s) := by
  refine ⟨by simp, fun d hd => ?_⟩
  simp at hd
  rcases hd with rfl | rfl | rfl
  · trivial
  · refine ⟨by simp; omega, fun d hd => ?_⟩
    have hd2 := List.mem_of_mem_tail (List.dropLast_subset _ hd)
    obtain ⟨i, _, rfl⟩ := List.mem_map.mp hd2
    trivial
  · trivial
theorem fit_frm {f : Frm} (o : FrGr f) : Fit 1 2000 (frD f) := by
  have h1 := o.bs
  have h2 := o.as
  have h3 := o.d3
  have h4 := o.ws
  have h5 := o.b0
  have h6 := o.a0
  have h7 := o.d1
  have hw : ∀ c ∈ f.word, c < 0x110000 := fun c hc => by
    have := o.low c hc
    have hall : ∀ c ∈ low, c < 0x110000 := by decide
    exact hall c this
  have hi : ∀ i : Int, 0 ≤ i → i ≤ 2 * 10 ^ 39 → Fit 0 400 (.int i) := fun i h0 h1 => (fit_int (by omega)).mono (by decide) (by decide)
  refine (fit_tup (h := 0) (w := 400) (n := 4) (fun d hd => ?_) (by simp)).mono (by decide) (by decide)
  simp at hd
  rcases hd with rfl | rfl | rfl | rfl
  · exact hi _ h5 (by omega)
  · exact (fit_str hw).mono (by decide) (by omega)
  · exact hi _ h6 (by omega)
  · exact hi _ (by omega) (by omega)
theorem fit_lay {l : Lay} (o : LyOk l) (hn : l.gaps.length ≤ 100) (hg : ∀ g ∈ l.gaps, g ≤ 10 ^ 40) (h1 : l.before ≤ 10 ^ 41) (h2 : l.behind ≤ 10 ^ 41) : Fit 2 70000 (plD l) := by
  have hi : ∀ i : Int, 0 ≤ i → i ≤ 10 ^ 41 → Fit 0 200 (.int i) := fun i h0 h1 => fit_int (by omega)
  have hb := o.b0
  have he := o.e0
  refine (fit_tup (h := 1) (w := 100 * 201) (n := 3) (fun d hd => ?_) (by simp)).mono (by decide) (by decide)
  simp at hd
  rcases hd with rfl | rfl | rfl
  · exact (hi _ hb h1).mono (by decide) (by decide)
  · refine fit_tup (h := 0) (w := 200) (n := 100) (fun d hd => ?_) (by simpa using hn)
    obtain ⟨g, hgm, rfl⟩ := List.mem_map.mp hd
    have := o.g1 g hgm
    have := hg g hgm
    exact hi g (by omega) (by omega)
  · exact (hi _ he h2).mono (by decide) (by decide)
theorem fit_pair {l : Lay} {f : Frm} (o : LyOk l) (q : FrGr f) (hn : l.gaps.length ≤ 100) (hg : ∀ g ∈ l.gaps, g ≤ 10 ^ 40) (h1 : l.before ≤ 10 ^ 41) (h2 : l.behind ≤ 10 ^ 41) : Fit 3 150000 (.list [plD l, frD f]) := by
  refine (fit_list (h := 2) (w := 70000) (n := 2) (fun d hd => ?_) (by simp)).mono (by decide) (by decide)
  simp at hd
  rcases hd with rfl | rfl
  · exact fit_lay o hn hg h1 h2
  · exact (fit_frm q).mono (by decide) (by decide)
theorem mid_sizes (l : Lay) (f : Frm) : ((sizesD l f).drop 1).dropLast = (l.gaps.filter fun g => decide (f.depth < g)).map fun g => sizeP (gapPiece f g) := by
  simp [sizesD, pieces, Function.comp_def]
theorem mid_pos {l : Lay} {f : Frm} (q : FrOk f) : ∀ i ∈ ((sizesD l f).drop 1).dropLast, 0 < i := by
  intro i hi
  rw [mid_sizes] at hi
  obtain ⟨g, hg, rfl⟩ := List.mem_map.mp hi
  have hd : f.depth < g := by simpa using (List.mem_filter.mp hg).2
  have h1 := q.d1
  have h2 := q.d2
  unfold gapPiece sizeP
  split
  · dsimp only
    omega
  · dsimp only
    rw [List.length_drop]
    omega
theorem pick5 {P : Int → Prop} {a b c d e i : Int} (h0 : 0 ≤ i) (h1 : i < 5) (ha : P a) (hb : P b) (hc : P c) (hd : P d) (he : P e) : ∃ q, atI [PyData.int a, PyData.int b, PyData.int c, PyData.int d, PyData.int e] i = some (.int q) ∧ P q := by
  have : i = 0 ∨ i = 1 ∨ i = 2 ∨ i = 3 ∨ i = 4 := by omega
  rcases this with rfl | rfl | rfl | rfl | rfl
  · exact ⟨a, rfl, ha⟩
  · exact ⟨b, rfl, hb⟩
  · exact ⟨c, rfl, hc⟩
  · exact ⟨d, rfl, hd⟩
  · exact ⟨e, rfl, he⟩
theorem g_min {ns : List Int} {k : D → Prop} (hn : ns ≠ []) : gMin [.list (ns.map .int)] k = k (.int (minI ns)) := by
  show withO (intsD (ns.map .int)) _ = _
  rw [show intsD (ns.map .int) = some ns from by simpa using intsD_map id ns]
  show (ns ≠ [] ∧ k (.int (minI ns))) = _
  simp [hn]
theorem r_law_right_k24 {least : Int} (hd : Dr n m st0 st) (hm : m ≤ 500000) (h1 : least ≤ 80) (h : ∀ st', Dr n (m + 1000) st0 st' → k (.d (.bool true)) st') : F_law_right_k24 [.l n, .d (.int least)] st k x := by
  simp [F_law_right_k24, e_run, w_law_right_k24]
  refine r_law_great hd (by omega) fun st1 f hd1 of => ?_
  refine ⟨by decide, ?_⟩
  refine r_law_layout_v1 (top := 12) hd1 (by omega) (by decide) (by decide) (by decide) fun st2 l hd2 ol hn hg hb he => ?_
  simp [plD]
  refine r_takeD hd2 (by omega) (by decide) (by decide) fun st3 i3 hd3 hi3 hj3 => ?_
  try simp
  have hM : max (least - (l.gaps.length : Int)) i3 ≤ 80 := by omega
  have hM0 : 0 ≤ max (least - (l.gaps.length : Int)) i3 := by omega
  obtain ⟨M, eM⟩ : ∃ M : Nat, max (least - (l.gaps.length : Int)) i3 = M := ⟨(max (least - (l.gaps.length : Int)) i3).toNat, by omega⟩
  rw [eM] at hM ⊢
  refine ⟨by omega, by omega, ?_⟩
  refine lcI (α := Nat) (fun i => .int (0 + i)) (fun l acc st' => acc.length + l.length = M ∧ IntsP (fun i => 1 ≤ i ∧ i ≤ 10 ^ 40) acc ∧ Dr n (m + 450 + 2 * acc.length) st0 st') (fun a l acc st1 K X hI hK => ?_) (l := List.range M) rfl (by simp [sizeLine_eq]; omega) ⟨by simp, .nil, hd3.mono (by simp)⟩ (fun acc st4 hI => ?_)
  · obtain ⟨q1, q2, q3⟩ := hI
    simp at q1
    try simp
    refine r_law_near_v1 q3 (by omega) of fun st5 g hd5 hg1 hg2 => ?_
    have := hK (.int g) st5 ⟨by simp; omega, q2.add ⟨hg1, hg2⟩, hd5.mono (by simp; omega)⟩
    simpa using this
  · obtain ⟨q1, ⟨gs, rfl, q2⟩, q3⟩ := hI
    rw [List.length_nil, Nat.add_zero, List.length_map] at q1
    rw [List.length_map] at q3
    have hb0 := of.b0
    have ha0 := of.a0
    have hbs := of.bs
    have has := of.as
    have hl0 := ol.b0
    have hl1 := ol.e0
    simp [frD, sizeLine_eq]
    refine ⟨by omega, ?_⟩
    refine r_takeD q3 (by omega) (by decide) (by decide) fun st5 i5 hd5 hi5 hj5 => ?_
    try simp
    obtain ⟨e1, he1, hp1⟩ := pick5 (P := fun i => 0 ≤ i ∧ i ≤ 10 ^ 41) (a := l.before) (b := l.behind) (c := f.back) (d := f.ahead + 1) (e := max 0 (f.back - 1)) hi5 hj5 (by omega) (by omega) (by omega) (by omega) (by omega)
    rw [g_ixLs he1]
    try simp
    refine r_takeD hd5 (by omega) (by decide) (by decide) fun st6 i6 hd6 hi6 hj6 => ?_
    try simp
    obtain ⟨e2, he2, hp2⟩ := pick5 (P := fun i => 0 ≤ i ∧ i ≤ 10 ^ 41) (a := l.before) (b := l.behind) (c := f.back) (d := f.ahead + 1) (e := max 0 (f.back - 1)) hi6 hj6 (by omega) (by omega) (by omega) (by omega) (by omega)
    rw [g_ixLs he2]
    have epl : PyData.tuple [PyData.int e1, PyData.tuple (List.map PyData.int l.gaps ++ List.map PyData.int gs), PyData.int e2] = plD ⟨e1, l.gaps ++ gs, e2⟩ := by simp [plD]
    have efr : PyData.tuple [PyData.int f.back, PyData.str (S f.word), PyData.int f.ahead, PyData.int f.depth] = frD f := rfl
    rw [epl, efr]
    have op : LyOk ⟨e1, l.gaps ++ gs, e2⟩ := ⟨hp1.1, fun g hg' => by
      rcases List.mem_append.mp hg' with hg' | hg'
      · exact ol.g1 g hg'
      · exact (q2 g hg').1, by simp; omega, hp2.1⟩
    have hgp : ∀ g ∈ (⟨e1, l.gaps ++ gs, e2⟩ : Lay).gaps, g ≤ 10 ^ 40 := fun g hg' => by
      rcases List.mem_append.mp hg' with hg' | hg'
      · exact hg g hg'
      · exact (q2 g hg').2
    have hnp : (⟨e1, l.gaps ++ gs, e2⟩ : Lay).gaps.length ≤ 100 := by simp; omega
    have hx1 : (⟨e1, l.gaps ++ gs, e2⟩ : Lay).before ≤ 10 ^ 41 := hp1.2
    have hx2 : (⟨e1, l.gaps ++ gs, e2⟩ : Lay).behind ≤ 10 ^ 41 := hp2.2
    generalize (⟨e1, l.gaps ++ gs, e2⟩ : Lay) = pl at *
    have hfp := fit_pair op of hnp hgp hx1 hx2
    have hlen := pieces_len pl f
    refine hfp.repr (by decide) (by decide) ?_
    refine r_law_due_v1 op of.toFrOk ?_
    refine r_pieces_afterb op of.toFrOk ?_
    refine r_same 7 _ (nice_pc _ (by omega)) ?_
    try simp
    refine hfp.repr (by decide) (by decide) ?_
    rw [g_neZ]
    try simp
    refine lcT (α := Pc) (l := pieces pl f) (fun p => [.int p.lo, .int p.n, .str (S p.w)]) (fun _ => true) (fun p => .int (sizeP p)) (fun p => [some (.l n), some (.d (.int least)), some (.d (frD f)), some (.d (.int l.before)), some (.d (.tuple (List.map PyData.int l.gaps ++ List.map PyData.int gs))), some (.d (.int l.behind)), some (.d (.int M)), some (.d (.list [PyData.int l.before, PyData.int l.behind, PyData.int f.back, PyData.int (f.ahead + 1), PyData.int (max 0 (f.back - 1))])), some (.d (plD pl)), some (.d (.str (PyData.shown (.list [plD pl, frD f])))), some (.d (.list ((pieces pl f).map pcD))), none, none, none, some (.d (.int p.lo)), some (.d (.int p.n)), some (.d (.str (S p.w)))]) rfl
      (fun p _ K hK => by simpa [wipeL] using hK) (fun p _ => by simp [wipeL]) (fun p _ K X hK => by simpa using hK) (fun p hp _ K X hK => ?_) (by rw [sizeLine_eq]; omega) ?_
    · have := pc_word of.toFrOk p hp
      have hw := of.ws
      simp [g_lenS, sizeLine_eq]
      exact ⟨by omega, hK⟩
    · rw [List.filter_eq_self.mpr (fun _ _ => rfl)]
      have e3 : (pieces pl f).map (fun p => PyData.int (sizeP p)) = (sizesD pl f).map .int := by simp [sizesD]
      rw [e3]
      obtain ⟨a, t, e4⟩ : ∃ a t, sizesD pl f = a :: t := ⟨_, _, rfl⟩
      have hmid := mid_pos (l := pl) of.toFrOk
      have hsl : (sizesD pl f).length ≤ 1000000 := by simp [sizesD]; omega
      rw [e4] at hmid hsl ⊢
      have e5 : (PyData.int a :: List.map PyData.int t).getLast? = some (.int ((a :: t).getLastD 0)) := by
        rw [← List.map_cons, List.getLast?_map, List.getLastD_eq_getLast?, List.getLast?_cons]
        rfl
      have e6 : (PyData.tuple [PyData.int a, PyData.tuple (List.map PyData.int t).dropLast, PyData.int ((a :: t).getLast?.getD 0)]) = layD (a :: t) := by simp [layD, List.map_dropLast, List.getLastD_eq_getLast?]
      have e7 : (List.map PyData.int t).dropLast ++ [PyData.int 1] = (t.dropLast ++ [1]).map .int := by simp [List.map_dropLast]
      have hpos : 0 < minI (t.dropLast ++ [1]) := by
        obtain ⟨g1, _⟩ := minI_mem (l := t.dropLast ++ [1]) (by simp)
        rcases List.mem_append.mp g1 with g1 | g1
        · exact hmid _ (by simpa using g1)
        · rw [List.mem_singleton.mp g1]
          decide
      have hmin : ∀ kk : D → Prop, kk (.int (minI (t.dropLast ++ [1]))) → gMin [.list ((t.dropLast ++ [1]).map .int)] kk := fun kk q => by
        rw [g_min (by simp)]
        exact q
      simp only [e_put, List.map_cons]
      rw [e_seq, e_set]
      simp [sizeLine_eq, cut_mid, g_ixL, e5, -e_ret]
      rw [e6]
      simp [sizeLine_eq]
      refine r_layout_by_formb op of.toFrOk ?_
      rw [e4]
      refine r_same 7 _ (nice_lay _ hsl) ?_
      try simp [cut_mid, sizeLine_eq]
      rw [e7]
      refine ⟨by simp at hsl; omega, hmin _ ?_⟩
      simp [hpos]
      rw [hd6.take hd]
      exact h _ (hd6.mono (by omega))
theorem law24_turn (ns : List Int) (j : Nat) (hn : n = st.length) (b : List D) (y3 : Option R) (j' : Int) (p : Post) (hm : m ≤ 400000) (hd : Dr n m (st ++ [some b]) st0)
    (hK : ∀ st', Dr n (m + 1000) (st ++ [some b]) st' → p.nx ⟨[some (.o (.scr ns)), some (.d (.int j)), some (.l n), some (.d (.int j'))], st'⟩) :
    wIfS (wNotT (wTru (wCall 2 F_law_right_k24 (wCons (wVar 2) (wCons (wOp2 gMul (wC (.int 80)) (wB gInt (wCons (wCmp gEq (wOp2 gAdd (wVar 1) (wVar 3)) (wC (.int 0))) wNil))) wNil))))) (wRet (wC (.bool false))) wNext ⟨[some (.o (.scr ns)), some (.d (.int j)), some (.l n), some (.d (.int j'))], st0⟩ p := by
  simp [g_eq]
  refine ⟨?_, ?_⟩
  · split <;> decide
  · refine r_law_right_k24 hd (by omega) (by split <;> decide) fun st' hd' => ?_
    simp
    exact hK st' hd'
theorem plain_k24 (ns : List Int) (hl : ns.length ≤ 63) : F_law_k24 [.o (.scr ns)] [] (fun y _ => y = .d (.bool true)) (fun _ _ => False) := by
  simp [F_law_k24, e_run, w_law_k24, sizeLine_eq]
  refine ⟨by omega, by omega, ?_⟩
  refine loopF_inv (fun ds r => (∀ d ∈ ds, ∃ j : Nat, d = .int j ∧ j ≤ 1000) ∧ ∃ sl st, r = ⟨some (.o (.scr ns)) :: sl, st⟩ ∧ sl.length = 3) ?_ ?_ _ _ ⟨?_, _, _, rfl, rfl⟩
  · rintro d ds r K hK ⟨hds, sl, st, rfl, hsl⟩
    obtain ⟨j, rfl, hj⟩ := hds d (by simp)
    match sl, hsl with
    | [y1, y2, y3], _ =>
    try simp
    refine r_law_cell_at fun i => ?_
    try simp
    refine r_law_bag hj fun b hb => ?_
    try simp
    refine loopF_inv (fun ds r => ∃ (c : Nat) (st1 : Sto) (y3 : Option R), (∀ d ∈ ds, ∃ j : Int, d = .int j) ∧ c + 1000 * ds.length ≤ 100000 ∧ Dr st.length c (st ++ [some b]) st1 ∧ r = ⟨[some (.o (.scr ns)), some (.d (.int j)), some (.l st.length), y3], st1⟩) ?_ ?_ _ _ ⟨0, _, y3, ?_, ?_, Dr.start (b := b) (by simp) hb, rfl⟩
    · rintro d ds' r K2 hK2 ⟨c, st1, y3, hds', hc, hd, rfl⟩
      obtain ⟨j', rfl⟩ := hds' d (by simp)
      simp only [List.length_cons] at hc
      rw [e_asg, e_put]
      exact law24_turn ns j rfl b y3 j' _ (by omega) hd fun st' hd' => hK2 _ ⟨c + 1000, st', _, fun d hd => hds' d (List.mem_cons_of_mem _ hd), by omega, hd', rfl⟩
    · rintro r ⟨c, st1, y3, _, hc, hd, rfl⟩
      exact hK _ ⟨fun d hd => hds d (List.mem_cons_of_mem _ hd), _, _, rfl, rfl⟩
    · intro d hd
      obtain ⟨i, _, rfl⟩ := List.mem_map.mp hd
      exact ⟨_, rfl⟩
    · simp [intR]
  · rintro r ⟨_, sl, st, rfl, hsl⟩
    match sl, hsl with
    | [y1, y2, y3], _ =>
    try simp [sizeLine_eq]
    have o1 : LyOk ⟨2, [1, 3], 4⟩ := ⟨by decide, by decide, by decide, by decide⟩
    have o2 : FrOk ⟨1, [120], 0, 1⟩ := ⟨by decide, by decide, by decide, by decide, by decide, by decide, by decide⟩
    have f1 : PyData.tuple [.int 2, .tuple [.int 1, .int 3], .int 4] = plD ⟨2, [1, 3], 4⟩ := rfl
    have f2 : PyData.tuple [.int 1, .str (S [120]), .int 0, .int 1] = frD ⟨1, [120], 0, 1⟩ := rfl
    rw [f1, f2]
    refine r_layout_by_formb o1 o2 ?_
    have e : layD (sizesD ⟨2, [1, 3], 4⟩ ⟨1, [120], 0, 1⟩) = plD ⟨2, [3], 4⟩ := by
      simp [layD, sizesD, pieces, sizeP, gapPiece, plD]
      decide
    have o3 : LyOk ⟨2, [3], 4⟩ := ⟨by decide, by decide, by decide, by decide⟩
    have f3 : PyData.tuple [PyData.int 2, PyData.tuple [PyData.int 3], PyData.int 4] = plD ⟨2, [3], 4⟩ := rfl
    rw [e, f3, e_dref_d]
    exact (fit_lay o3 (by decide) (by decide) (by decide) (by decide)).eq (by decide) rfl
  · intro d hd
    obtain ⟨i, hi, rfl⟩ := List.mem_map.mp hd
    have := List.mem_range.mp hi
    exact ⟨i, by simp, by omega⟩
end
end Dl

/-! plain law k23 -/
namespace Dl
open PySem
open PySem.Spec
open PyProof.Rows
open L2
section
variable {st st0 : Sto} {k : KS} {x : XS0} {n m : Nat}
theorem r_law_layoutB {top : Nat} {most B : Int} (hd : Dr n m st0 st) (hm : m ≤ 900000) (ht : top ≤ 1000) (h1 : 1 ≤ most) (h2 : most ≤ B) (hB : 12 ≤ B) (hB2 : B ≤ 10 ^ 39)
    (h : ∀ st' l, Dr n (m + 2 * top + 5) st0 st' → LyOk l → l.gaps.length ≤ top → (∀ g ∈ l.gaps, g ≤ B) → l.before < B → l.behind < B → k (.d (plD l)) st') : F_law_layout_v1 [.l n, .d (.int top), .d (.int most)] st k x := by
  have hl := hd.1
  simp [F_law_layout_v1, e_run, w_law_layout_v1, sizeLine_eq]
  try simp
  refine r_takeL hd (by omega) (by omega) (by omega) fun st1 i1 hd1 hi1 hj1 => ?_
  simp
  refine ⟨by omega, by omega, ?_⟩
  try simp
  refine loopF_inv (fun ds r => ∃ (c : Nat) (gs : List Int) (st2 : Sto) (y4 : Option D), c + ds.length ≤ top ∧ gs.length = c ∧ (∀ g ∈ gs, 1 ≤ g ∧ g ≤ B) ∧ Dr n (m + 1 + 2 * c) st0 st2 ∧ r = ⟨[some (.l n), some (.d (.int top)), some (.d (.int most)), some (.l st.length), y4.map R.d, none], st2 ++ [some (gs.map .int)]⟩) ?_ ?_ _ _
    ⟨0, [], st1, none, ?_, rfl, by simp, hd1, rfl⟩
  · rintro d ds r K hK ⟨c, gs, st2, y4, hc, hg, hgs, hd2, rfl⟩
    simp only [List.length_cons] at hc
    have hl2 : st2.length = st.length := by rw [hd2.len, hd.len]
    simp [sizeLine_eq, e_lstM hl2]
    try simp
    refine r_takeL hd2 (by omega) (by decide) (by decide) fun st3 i3 hd3 hi3 hj3 => ?_
    try simp
    obtain ⟨q, hq, hp⟩ := pick3 (P := fun i => 1 ≤ i ∧ i ≤ B) (a := 3) (b := 12) (c := most) hi3 hj3 ⟨by omega, by omega⟩ ⟨by omega, by omega⟩ ⟨h1, h2⟩
    try simp
    rw [g_ixL, hq]
    simp
    try simp
    refine r_takeL hd3 (by omega) (by omega) (by omega) fun st4 i4 hd4 hi4 hj4 => ?_
    have hl4 : st4.length = st.length := by rw [hd4.len, hd.len]
    simp
    rw [e_lstM hl4]
    simp [uAppend, sizeLine_eq, e_setM hl4]
    refine ⟨by omega, hK _ ⟨c + 1, gs ++ [1 + i4], st4, some d, by omega, by simp [hg], fun g hgm => ?_, hd4.mono (by omega), by simp⟩⟩
    rcases List.mem_append.mp hgm with hgm | hgm
    · exact hgs g hgm
    · rw [List.mem_singleton.mp hgm]
      constructor
      · omega
      · omega
  · rintro r ⟨c, gs, st2, y4, hc, hg, hgs, hd2, rfl⟩
    simp at hc
    have hl2 : st2.length = st.length := by rw [hd2.len, hd.len]
    rcases y4 with _ | y4
    all_goals
      simp
      try simp
      refine lcI (α := Nat) (fun i => .int (0 + i)) (fun l acc st' => acc.length + l.length = 2 ∧ IntsP (fun i => 0 ≤ i ∧ i < B) acc ∧ ∃ st3, Dr n (m + 1 + 2 * c + 2 * acc.length) st0 st3 ∧ st' = st3 ++ [some (gs.map .int)]) (fun a l acc st1 K X hI hK => ?_) (l := List.range 2) rfl (by simp [sizeLine_eq]) ⟨by simp, .nil, st2, by simpa using hd2, rfl⟩ (fun acc st1 hI => ?_)
      · obtain ⟨q1, q2, st3, q3, rfl⟩ := hI
        simp at q1
        simp [sizeLine_eq]
        try simp
        refine r_takeL q3 (by omega) (by decide) (by decide) fun st4 i4 hd4 hi4 hj4 => ?_
        try simp
        obtain ⟨q, hq, hp⟩ := pick3 (P := fun i => 1 ≤ i ∧ i ≤ B) (a := 4) (b := 12) (c := most) hi4 hj4 ⟨by omega, by omega⟩ ⟨by omega, by omega⟩ ⟨h1, h2⟩
        try simp
        rw [g_ixL, hq]
        simp
        try simp
        refine r_takeL hd4 (by omega) (by omega) (by omega) fun st5 i5 hd5 hi5 hj5 => ?_
        have := hK (.int i5) _ ⟨by simp; omega, q2.add ⟨hi5, by omega⟩, st5, hd5.mono (by simp; omega), rfl⟩
        simpa using this
      · obtain ⟨q1, q2, st3, q3, rfl⟩ := hI
        rw [List.length_nil, Nat.add_zero] at q1
        obtain ⟨a, b, rfl, ha, hb⟩ := q2.two q1
        have hl3 : st3.length = st.length := by rw [q3.len, hd.len]
        simp [g_ixL, e_lstM hl3, e_takeM hl3, sizeLine_eq]
        have hdf : Dr n (m + 2 * top + 5) st0 st3 := q3.mono (by simp; omega)
        exact h st3 ⟨a, gs, b⟩ hdf ⟨ha.1, fun g hg' => (hgs g hg').1, by dsimp only; omega, hb.1⟩ (by dsimp only; omega) (fun g hg' => (hgs g hg').2) (by dsimp only; omega) (by dsimp only; omega)
  · simp [intR]
    omega
theorem r_pieces_from {l : Lay} {f : Frm} (o : LyOk l) (q : FrOk f) (h : k (.l st.length) (st ++ [some ((pieces l f).map pcD)])) : F_pieces_from [.d (plD l), .d (frD f)] st k x := by
  have hz := o.sz
  have hf : (l.gaps.filter fun g => decide (f.depth < g)).length ≤ l.gaps.length := List.length_filter_le _ _
  simp [F_pieces_from, e_run, w_pieces_from, plD, frD, sizeLine_eq]
  try simp
  refine lc1 (α := Int) (l := l.gaps) (fun g => .int g) (fun g => decide (f.depth < g)) (fun g => pcD (gapPiece f g)) rfl (fun g _ K X hK => by simpa using hK) (fun g _ _ K X hK => ?_) (sz hz) ?_
  · simp
    exact r_gap_piece q hK
  · simp [uExtend, uAppend, sizeLine_eq]
    refine ⟨by omega, ?_⟩
    by_cases hb : f.ahead < l.behind
    · simp [hb]
      refine ⟨by omega, ?_⟩
      simpa [pieces, pcD, hb, Function.comp_def] using h
    · simp [hb]
      refine ⟨by omega, ?_⟩
      simpa [pieces, pcD, hb, Function.comp_def] using h
theorem r_pieces_after {l : Lay} {f : Frm} (o : LyOk l) (q : FrOk f) (h : k (.l st.length) (st ++ [some ((pieces l f).map pcD)])) : F_pieces_after [.d (plD l), .d (frD f)] st k x := by
  simp [F_pieces_after, e_run, w_pieces_after]
  try simp
  refine r_check_both o q ?_
  try simp
  refine r_pieces_from o q ?_
  simpa using h
theorem r_layout_by_form {l : Lay} {f : Frm} (o : LyOk l) (q : FrOk f) (h : k (.d (layD (sizesD l f))) st) : F_layout_by_form [.d (plD l), .d (frD f)] st k x := by
  have hz := o.sz
  have hl := pieces_len l f
  simp [F_layout_by_form, e_run, w_layout_by_form]
  try simp
  refine r_check_both o q ?_
  try simp
  refine r_pieces_from o q ?_
  simp
  try simp
  refine lcT (α := Pc) (l := pieces l f) (fun p => [.int p.lo, .int p.n, .str (S p.w)]) (fun _ => true) (fun p => .int (sizeP p)) (fun p => [some (.d (plD l)), some (.d (frD f)), none, some (.d (.int p.lo)), some (.d (.int p.n)), some (.d (.str (S p.w)))]) rfl
    (fun p _ K hK => by simpa [wipeL] using hK) (fun p _ => by simp [wipeL]) (fun p _ K X hK => by simpa using hK) (fun p hp _ K X hK => ?_) (by rw [sizeLine_eq]; omega) ?_
  · have := pc_word q p hp
    have hw := q.sz
    simp [g_lenS, sizeLine_eq]
    exact ⟨by omega, hK⟩
  · rw [List.filter_eq_self.mpr (fun _ _ => rfl)]
    have e1 : (pieces l f).map (fun p => PyData.int (sizeP p)) = (sizesD l f).map .int := by simp [sizesD]
    rw [e1]
    obtain ⟨a, t, e2⟩ : ∃ a t, sizesD l f = a :: t := ⟨_, _, rfl⟩
    rw [e2] at h ⊢
    simp [g_ixL, sizeLine_eq, cut_mid]
    have e3 : (PyData.int a :: List.map PyData.int t).getLast? = some (.int ((a :: t).getLastD 0)) := by
      rw [← List.map_cons, List.getLast?_map, List.getLastD_eq_getLast?, List.getLast?_cons]
      rfl
    rw [e3]
    simpa [layD, List.map_dropLast] using h
theorem depth_le (row : List Nat) : (formS row).depth ≤ (formS row).back + (formS row).ahead ∧ (formS row).back ≤ row.length ∧ (formS row).ahead ≤ row.length ∧ (formS row).word.length ≤ row.length := by
  have go : ∀ (l : List Nat) (f : Fm) (N : Nat), FmI f → f.depth ≤ f.back + f.ahead → f.back ≤ N → f.ahead ≤ N → f.word.length ≤ N →
      (l.foldl stepF f).depth ≤ (l.foldl stepF f).back + (l.foldl stepF f).ahead ∧ (l.foldl stepF f).back ≤ N + l.length ∧ (l.foldl stepF f).ahead ≤ N + l.length ∧ (l.foldl stepF f).word.length ≤ N + l.length := by
    intro l
    induction l with
    | nil => intro f N _ h1 h2 h3 h4; exact ⟨h1, by simpa using h2, by simpa using h3, by simpa using h4⟩
    | cons c l ih =>
      intro f N hI h1 h2 h3 h4
      have hw := stepF_word f c
      have he := hI.e
      have := ih (stepF f c) (N + 1) hI.step ?_ ?_ ?_ (by omega)
      · rw [List.foldl_cons, List.length_cons]
        obtain ⟨a1, a2, a3, a4⟩ := this
        exact ⟨a1, by omega, by omega, by omega⟩
      all_goals
        unfold stepF
        split
        · dsimp only; omega
        · split
          · dsimp only; omega
          · split
            · rename_i hwz
              rw [hwz] at he
              simp at he
              dsimp only; omega
            · rename_i hwz
              have := List.length_pos_iff.mpr hwz
              dsimp only; omega
  have := go row ⟨0, [], 0, 0, 0⟩ 0 .nil (by simp) (by simp) (by simp) (by simp)
  simpa [formS] using this
theorem frOk_of (row : List Nat) (hz : row.length ≤ 1000) : FrOk (frmOf (formS row)) := by
  have h := formI row
  obtain ⟨h1, h2, h3, h4⟩ := depth_le row
  have he := h.e
  have hs := h.s
  have hb := h.b
  exact ⟨by simp [frmOf], by simp [frmOf], h.lo, by simp [frmOf]; omega, by simp [frmOf]; omega, by simp [frmOf]; omega, by simp [frmOf]; omega⟩
theorem lay_nat {l : Lay} (o : LyOk l) : ∃ b gs e, l = layN b gs e ∧ ∀ g ∈ gs, 1 ≤ g := by
  refine ⟨l.before.toNat, l.gaps.map Int.toNat, l.behind.toNat, ?_, fun g hg => ?_⟩
  · unfold layN
    have h1 := o.b0
    have h2 := o.e0
    cases l with
    | mk b gs e =>
      dsimp only at *
      rw [List.map_map]
      congr 1
      · omega
      · have : ∀ g ∈ gs, (Int.ofNat ∘ Int.toNat) g = id g := fun g hg => by
          have := o.g1 g hg
          show ((g.toNat : Nat) : Int) = g
          omega
        rw [List.map_congr_left this, List.map_id]
      · omega
  · obtain ⟨i, hi, rfl⟩ := List.mem_map.mp hg
    have := o.g1 i hi
    omega
theorem plD_nat (b : Nat) (gs : List Nat) (e : Nat) : plD (layN b gs e) = .tuple [.int (b : Int), .tuple (natsD gs), .int (e : Int)] := by
  simp [plD, layN, natsD]
/-- .. the first one a list of the store -/
theorem r_sameL {n i : Nat} {ds : List D} (hn : nice (n + 1) (.list ds)) {st : Sto} {k : KS} {x : XS0} (hi : st[i]? = some (some ds)) (h : k (.d (.bool true)) st) : F_law_same_v1 (n + 2) [.l i, .d (.list ds)] st k x := by
  obtain ⟨hz, hd⟩ := hn
  show runF 3 (w_law_same_v1 (F_law_same_v1 (n + 1))) [.l i, .d (.list ds)] st k x
  simp [e_run, w_law_same_v1, g_neB, g_ne, e_lstAt hi]
  refine ⟨by omega, ?_⟩
  try simp
  refine lc1y (α := Nat) (fun i => .int (0 + i)) (fun _ => .bool true) rfl (fun j hj K X hK => ?_) (by simpa using sz hz) ?_
  · have hj' : j < ds.length := by simpa using hj
    simp [g_ixL, g_ixT, atI_nat, hj', e_lstAt hi]
    exact r_same _ _ (hd _ (List.getElem_mem hj')) (by simpa using hK)
  · try simp
    rw [g_all (boolsD_map (fun _ => true) (List.range ds.length))]
    have e1 : ((List.range ds.length).map fun _ => true).all id = true := by
      rw [List.all_eq_true]
      intro b hb
      obtain ⟨_, _, rfl⟩ := List.mem_map.mp hb
      rfl
    rw [e1]
    simpa using h
theorem r_law_right_k23 (hd : Dr n m st0 st) (hm : m ≤ 800000) (h : ∀ st', Dr n (m + 100) st0 st' → k (.d (.bool true)) st') : F_law_right_k23 [.l n] st k x := by
  simp [F_law_right_k23, e_run, w_law_right_k23, -e_seq]
  rw [e_seq]
  simp [-e_seq]
  refine r_law_layoutB (B := 12) (top := 5) hd (by omega) (by decide) (by decide) (by decide) (by decide) (by decide) fun st1 l hd1 ol hn hg hb he => ?_
  obtain ⟨b1, hb1, hn1⟩ := hd1.at
  refine r_law_still (top := 12) hn1 hb1 (by omega) (by decide) fun b2 row hb2 hrow => ?_
  have hd2 : Dr n (m + 40) st0 (st1.set n (some b2)) := ⟨hd1.1, b2, hb2.mono (by omega), by
    obtain ⟨_, b0, _, rfl⟩ := hd1
    rw [List.set_set]⟩
  generalize st1.set n (some b2) = st2 at *
  obtain ⟨b, gs, e, rfl, hg1⟩ := lay_nat ol
  have hr60 : Row 60 row := hrow.mono (by decide)
  have hrl := hrow.1
  obtain ⟨hd0, hd1', hd2', hd3'⟩ := depth_le row
  have hfo := frOk_of row (by omega)
  have hgl : gs.length ≤ 5 := by simpa [layN] using hn
  have hgb : ∀ g ∈ gs, g ≤ 12 := fun g hg' => by
    have h1 : (Int.ofNat g) ≤ 12 := hg (Int.ofNat g) (List.mem_map.mpr ⟨g, hg', rfl⟩)
    have h2 : ((g : Nat) : Int) ≤ 12 := h1
    omega
  have hsum : gs.sum ≤ 60 := by
    have : ∀ (l : List Nat), (∀ g ∈ l, g ≤ 12) → l.sum ≤ l.length * 12 := by
      intro l
      induction l with
      | nil => simp
      | cons g l ih =>
        intro h
        have h1 := ih fun g' hg' => h g' (List.mem_cons_of_mem _ hg')
        have h2 := h g (by simp)
        simp only [List.sum_cons, List.length_cons]
        omega
    have := this gs hgb
    omega
  have hbb : b ≤ 100 := by simp [layN] at hb; omega
  have hee : e ≤ 100 := by simp [layN] at he; omega
  rw [e_seq]
  simp [-e_seq]
  refine r_law_form hr60 ?_
  try simp [-e_seq]
  rw [plD_nat]
  refine r_law_due rfl hr60 (by omega) hg1 (by omega) hbb hee (by omega) (by omega) (by omega) ?_
  have epl := plD_nat b gs e
  have efm : fmD (formS row) = frD (frmOf (formS row)) := rfl
  have hpl := pieces_len (layN b gs e) (frmOf (formS row))
  have hpn : (pieces (layN b gs e) (frmOf (formS row))).length = (gs.filter fun (g : Nat) => decide ((formS row).depth < (g : Int))).length + 2 := by
    have e1 : (gs.map Int.ofNat).filter (fun g => decide ((formS row).depth < g)) = (gs.filter fun (g : Nat) => decide ((formS row).depth < (g : Int))).map Int.ofNat := by
      rw [List.filter_map]
      rfl
    unfold pieces
    rw [List.length_cons, List.length_append, List.length_map]
    show (((gs.map Int.ofNat).filter (fun g => decide ((formS row).depth < g))).length + 1) + 1 = _
    rw [e1, List.length_map]
  rw [← epl, efm]
  have hlok : LyOk (layN b gs e) := ol
  have hsz : (sizesD (layN b gs e) (frmOf (formS row))).length ≤ 100 := by
    unfold sizesD
    rw [List.length_map]
    have : (layN b gs e).gaps.length ≤ 5 := hn
    omega
  have ix1 : ∀ {k : D → Prop}, gIx (plD (layN b gs e)) (.int 1) k = k (.tuple (natsD gs)) := by
    intro k
    rw [epl, g_ixT1]
  have ix3 : ∀ {k : D → Prop}, gIx (frD (frmOf (formS row))) (.int 3) k = k (.int (formS row).depth) := by
    intro k
    rw [frD, g_ixT3]
    rfl
  have pa : ∀ {st : Sto} {k : KS} {x : XS0}, k (.l st.length) (st ++ [some ((pieces (layN b gs e) (frmOf (formS row))).map pcD)]) → F_pieces_after [.d (plD (layN b gs e)), .d (frD (frmOf (formS row)))] st k x := fun h => r_pieces_after hlok hfo h
  have lf : ∀ {st : Sto} {k : KS} {x : XS0}, k (.d (layD (sizesD (layN b gs e) (frmOf (formS row))))) st → F_layout_by_form [.d (plD (layN b gs e)), .d (frD (frmOf (formS row)))] st k x := fun h => r_layout_by_form hlok hfo h
  have hpl7 : (pieces (layN b gs e) (frmOf (formS row))).length ≤ 7 := by have : (layN b gs e).gaps.length ≤ 5 := hn; omega
  have nz : ∀ N, nice (N + 2) (.list ((pieces (layN b gs e) (frmOf (formS row))).map pcD)) := fun N => by
    refine ⟨by simp; omega, fun d hd => ?_⟩
    obtain ⟨p, _, rfl⟩ := List.mem_map.mp hd
    exact ⟨by simp, by simp [nice]⟩
  have nl : ∀ N, nice (N + 2) (layD (sizesD (layN b gs e) (frmOf (formS row)))) := fun N => by
    generalize sizesD (layN b gs e) (frmOf (formS row)) = Z at *
    refine ⟨by simp, fun d hd => ?_⟩
    rcases List.mem_cons.mp hd with rfl | hd
    · simp [nice]
    · rcases List.mem_cons.mp hd with rfl | hd
      · refine ⟨by simp; omega, fun d hd => ?_⟩
        obtain ⟨i, _, rfl⟩ := List.mem_map.mp hd
        simp [nice]
      · rw [List.mem_singleton] at hd
        subst hd
        simp [nice]
  generalize sizesD (layN b gs e) (frmOf (formS row)) = Z at *
  generalize pieces (layN b gs e) (frmOf (formS row)) = PP at *
  generalize plD (layN b gs e) = PD at *
  generalize frD (frmOf (formS row)) = FD at *
  generalize layD Z = LZ at *
  rw [e_seq]
  simp [-e_seq, ix1, ix3]
  refine lc1 (α := Nat) (l := gs) (fun (g : Nat) => .int g) (fun g => decide ((formS row).depth < (g : Int))) (fun (g : Nat) => .int g) rfl (fun g _ K X hK => by simpa [ix3] using hK) (fun g _ _ K X hK => by simpa using hK) (by rw [sizeLine_eq]; omega) ?_
  simp [-e_seq, g_ne, hpn]
  rw [e_seq]
  simp [-e_seq]
  refine pa ?_
  rw [e_seq]
  try simp [-e_seq]
  refine r_sameL (n := 6) (nz 5) (by simp) ?_
  try simp [-e_seq]
  refine lf ?_
  try simp [-e_seq]
  refine r_same 7 _ (nl 5) ?_
  try simp [-e_seq]
  rw [e_seq]
  simp [-e_seq, uAppend, sizeLine_eq]
  refine ⟨by omega, ?_⟩
  rw [e_seq]
  try simp [-e_seq, sizeLine_eq]
  refine pa ?_
  try simp [-e_seq, sizeLine_eq]
  refine lf ?_
  try simp [-e_seq, sizeLine_eq]
  refine r_same 7 (.list [.list (PP.map pcD), LZ]) ⟨by simp, fun d hd => ?_⟩ ?_
  · simp at hd
    rcases hd with rfl | rfl
    · exact nz 4
    · exact nl 4
  · simp
    have hl2 : st2.length = st.length := by rw [hd2.len, hd.len]
    rw [e_takeM hl2]
    exact h st2 (hd2.mono (by omega))
end
end Dl

/-! plain law k23 -/
namespace Dl
open PySem
open PySem.Spec
open PyProof.Rows
open L2
section
variable {st st0 : Sto} {k : KS} {x : XS0} {n m : Nat}
theorem law23_turn (ns : List Int) (j : Nat) (hn : n = st.length) (b : List D) (y3 : Option R) (j' : Int) (p : Post) (hm : m ≤ 400000) (hd : Dr n m (st ++ [some b]) st0)
    (hK : ∀ st', Dr n (m + 1000) (st ++ [some b]) st' → p.nx ⟨[some (.o (.scr ns)), some (.d (.int j)), some (.l n), some (.d (.int j')), y3], st'⟩) :
    wIfS (wNotT (wTru (wCall 1 F_law_right_k23 (wCons (wVar 2) wNil)))) (wRet (wC (.bool false))) wNext ⟨[some (.o (.scr ns)), some (.d (.int j)), some (.l n), some (.d (.int j')), y3], st0⟩ p := by
  simp
  refine r_law_right_k23 hd (by omega) fun st' hd' => ?_
  simp
  exact hK st' (hd'.mono (by omega))
theorem plain_k23 (ns : List Int) (hl : ns.length ≤ 63) : F_law_k23 [.o (.scr ns)] [] (fun y _ => y = .d (.bool true)) (fun _ _ => False) := by
  simp [F_law_k23, e_run, w_law_k23, sizeLine_eq]
  refine ⟨by omega, by omega, ?_⟩
  refine loopF_inv (fun ds r => (∀ d ∈ ds, ∃ j : Nat, d = .int j ∧ j ≤ 1000) ∧ ∃ sl st, r = ⟨some (.o (.scr ns)) :: sl, st⟩ ∧ sl.length = 4) ?_ ?_ _ _ ⟨?_, _, _, rfl, rfl⟩
  · rintro d ds r K hK ⟨hds, sl, st, rfl, hsl⟩
    obtain ⟨j, rfl, hj⟩ := hds d (by simp)
    match sl, hsl with
    | [y1, y2, y3, y4], _ =>
    try simp
    refine r_law_cell_at fun i => ?_
    try simp
    refine r_law_bag hj fun b hb => ?_
    try simp
    refine loopF_inv (fun ds r => ∃ (c : Nat) (st1 : Sto) (y3 : Option R), (∀ d ∈ ds, ∃ j : Int, d = .int j) ∧ c + 1000 * ds.length ≤ 100000 ∧ Dr st.length c (st ++ [some b]) st1 ∧ r = ⟨[some (.o (.scr ns)), some (.d (.int j)), some (.l st.length), y3, y4], st1⟩) ?_ ?_ _ _ ⟨0, _, y3, ?_, ?_, Dr.start (b := b) (by simp) hb, rfl⟩
    · rintro d ds' r K2 hK2 ⟨c, st1, y3, hds', hc, hd, rfl⟩
      obtain ⟨j', rfl⟩ := hds' d (by simp)
      simp only [List.length_cons] at hc
      rw [e_asg, e_put]
      exact law23_turn ns j rfl b y4 j' _ (by omega) hd fun st' hd' => hK2 _ ⟨c + 1000, st', _, fun d hd => hds' d (List.mem_cons_of_mem _ hd), by omega, hd', rfl⟩
    · rintro r ⟨c, st1, y3, _, hc, hd, rfl⟩
      exact hK _ ⟨fun d hd => hds d (List.mem_cons_of_mem _ hd), _, _, rfl, rfl⟩
    · intro d hd
      obtain ⟨i, _, rfl⟩ := List.mem_map.mp hd
      exact ⟨_, rfl⟩
    · simp [intR]
  · rintro r ⟨_, sl, st, rfl, hsl⟩
    match sl, hsl with
    | [y1, y2, y3, y4], _ =>
    try simp [sizeLine_eq]
    have o1 : LyOk ⟨2, [1, 3], 4⟩ := ⟨by decide, by decide, by decide, by decide⟩
    have o2 : FrOk ⟨1, [120], 0, 1⟩ := ⟨by decide, by decide, by decide, by decide, by decide, by decide, by decide⟩
    have o3 : LyOk ⟨0, [3], 0⟩ := ⟨by decide, by decide, by decide, by decide⟩
    have o4 : FrOk ⟨0, [120, 121], 4, 2⟩ := ⟨by decide, by decide, by decide, by decide, by decide, by decide, by decide⟩
    have f1 : PyData.tuple [.int 2, .tuple [.int 1, .int 3], .int 4] = plD ⟨2, [1, 3], 4⟩ := rfl
    have f2 : PyData.tuple [.int 1, .str (S [120]), .int 0, .int 1] = frD ⟨1, [120], 0, 1⟩ := rfl
    have f3 : PyData.tuple [.int 0, .tuple [.int 3], .int 0] = plD ⟨0, [3], 0⟩ := rfl
    have f4 : PyData.tuple [.int 0, .str (S [120, 121]), .int 4, .int 2] = frD ⟨0, [120, 121], 4, 2⟩ := rfl
    rw [f1, f2]
    refine r_pieces_after o1 o2 ?_
    have e1 : (pieces ⟨2, [1, 3], 4⟩ ⟨1, [120], 0, 1⟩).map pcD = [piece 0 1 [120], piece 0 2 [120], piece 0 4 []] := by
      simp [pieces, gapPiece, pcD, piece]
      decide
    have e2 : (pieces ⟨0, [3], 0⟩ ⟨0, [120, 121], 4, 2⟩).map pcD = [piece 0 0 [120, 121], piece 0 0 [121], piece 0 0 []] := by
      simp [pieces, gapPiece, pcD, piece]
      decide
    rw [e1]
    try simp [sizeLine_eq]
    rw [f3, f4]
    refine r_pieces_after o3 o4 ?_
    rw [e2]
    try simp [sizeLine_eq]
    refine r_same 7 (.list [.list [piece 0 1 [120], piece 0 2 [120], piece 0 4 []], .list [piece 0 0 [120, 121], piece 0 0 [121], piece 0 0 []]]) ⟨by simp, by simp [nice, piece]⟩ ?_
    simp
  · intro d hd
    obtain ⟨i, hi, rfl⟩ := List.mem_map.mp hd
    have := List.mem_range.mp hi
    exact ⟨i, by simp, by omega⟩
end
end Dl

namespace Dl
open PySem
open PySem.Spec
open PyProof.Rows
open L2
def topS (i : Nat) : Stmt := PySem.Challenge.pw_cursorkeys_k23_pieces_on_marks.main.body.getD i (.Pass ⟨0, 0, 0, 0⟩)
abbrev s_law_same : Stmt := topS 21
theorem sc_law_same : FnScope ["found", "due", "k"] ["found", "due"] (defScope s_law_same) := ⟨rfl, rfl, rfl, by decide +kernel, rfl, by decide +kernel, by decide +kernel⟩
abbrev s_law_bag : Stmt := topS 22
theorem sc_law_bag : FnScope ["cell", "k"] ["cell", "k"] (defScope s_law_bag) := ⟨rfl, rfl, rfl, by decide +kernel, rfl, by decide +kernel, by decide +kernel⟩
abbrev s_is_integer : Stmt := topS 6
theorem sc_is_integer : FnScope ["value", "low", "high"] ["value", "low", "high"] (defScope s_is_integer) := ⟨rfl, rfl, rfl, by decide +kernel, rfl, by decide +kernel, by decide +kernel⟩
abbrev s_is_layout : Stmt := topS 11
theorem sc_is_layout : FnScope ["value", "gap"] ["value"] (defScope s_is_layout) := ⟨rfl, rfl, rfl, by decide +kernel, rfl, by decide +kernel, by decide +kernel⟩
abbrev s_check_layout : Stmt := topS 12
theorem sc_check_layout : FnScope ["layout"] ["layout"] (defScope s_check_layout) := ⟨rfl, rfl, rfl, by decide +kernel, rfl, by decide +kernel, by decide +kernel⟩
abbrev s_is_form : Stmt := topS 8
theorem sc_is_form : FnScope ["value", "back", "word", "ahead", "depth", "number", "letter"] ["value"] (defScope s_is_form) := ⟨rfl, rfl, rfl, by decide +kernel, rfl, by decide +kernel, by decide +kernel⟩
abbrev s_check_form : Stmt := topS 9
theorem sc_check_form : FnScope ["form"] ["form"] (defScope s_check_form) := ⟨rfl, rfl, rfl, by decide +kernel, rfl, by decide +kernel, by decide +kernel⟩
abbrev s_check_both : Stmt := topS 14
theorem sc_check_both : FnScope ["layout", "form"] ["layout", "form"] (defScope s_check_both) := ⟨rfl, rfl, rfl, by decide +kernel, rfl, by decide +kernel, by decide +kernel⟩
abbrev s_gap_piece : Stmt := topS 15
theorem sc_gap_piece : FnScope ["gap", "form", "back", "word", "ahead", "depth", "kept"] ["gap", "form"] (defScope s_gap_piece) := ⟨rfl, rfl, rfl, by decide +kernel, rfl, by decide +kernel, by decide +kernel⟩
abbrev s_pieces_from : Stmt := topS 16
theorem sc_pieces_from : FnScope ["layout", "form", "before", "gaps", "behind", "back", "word", "ahead", "depth", "found", "gap"] ["layout", "form"] (defScope s_pieces_from) := ⟨rfl, rfl, rfl, by decide +kernel, rfl, by decide +kernel, by decide +kernel⟩
abbrev s_pieces_after : Stmt := topS 17
theorem sc_pieces_after : FnScope ["layout", "form"] ["layout", "form"] (defScope s_pieces_after) := ⟨rfl, rfl, rfl, by decide +kernel, rfl, by decide +kernel, by decide +kernel⟩
abbrev s_law_cell_at : Stmt := topS 20
theorem sc_law_cell_at : FnScope ["script", "k"] ["script", "k"] (defScope s_law_cell_at) := ⟨rfl, rfl, rfl, by decide +kernel, rfl, by decide +kernel, by decide +kernel⟩
abbrev s_law_take : Stmt := topS 23
theorem sc_law_take : FnScope ["bag", "limit", "found", "mixed"] ["bag", "limit"] (defScope s_law_take) := ⟨rfl, rfl, rfl, by decide +kernel, rfl, by decide +kernel, by decide +kernel⟩
abbrev s_law_layout : Stmt := topS 28
theorem sc_law_layout : FnScope ["bag", "top", "most", "gaps", "turn", "ends"] ["bag", "top", "most"] (defScope s_law_layout) := ⟨rfl, rfl, rfl, by decide +kernel, rfl, by decide +kernel, by decide +kernel⟩
abbrev s_law_still : Stmt := topS 24
theorem sc_law_still : FnScope ["bag", "top", "style", "found", "turn", "some"] ["bag", "top"] (defScope s_law_still) := ⟨rfl, rfl, rfl, by decide +kernel, rfl, by decide +kernel, by decide +kernel⟩
abbrev s_law_form : Stmt := topS 25
theorem sc_law_form : FnScope ["row", "left", "right", "depth", "surplus", "one", "kept", "word", "thing"] ["row"] (defScope s_law_form) := ⟨rfl, rfl, rfl, by decide +kernel, rfl, by decide +kernel, by decide +kernel⟩
abbrev s_law_moved : Stmt := topS 26
theorem sc_law_moved : FnScope ["marks", "spots", "one", "gone", "later", "spot", "index_gone", "place", "mark"] ["marks", "spots", "one"] (defScope s_law_moved) := ⟨rfl, rfl, rfl, by decide +kernel, rfl, by decide +kernel, by decide +kernel⟩
abbrev s_law_pressed : Stmt := topS 27
theorem sc_law_pressed : FnScope ["marks", "spots", "row", "one", "later", "longer", "place"] ["marks", "spots", "row"] (defScope s_law_pressed) := ⟨rfl, rfl, rfl, by decide +kernel, rfl, by decide +kernel, by decide +kernel⟩
abbrev s_law_piece : Stmt := topS 29
theorem sc_law_piece : FnScope ["part", "origin", "kept", "letters", "mark", "one", "two"] ["part", "origin"] (defScope s_law_piece) := ⟨rfl, rfl, rfl, by decide +kernel, rfl, by decide +kernel, by decide +kernel⟩
abbrev s_law_due : Stmt := topS 30
theorem sc_law_due : FnScope ["place", "row", "before", "gaps", "behind", "spots", "firsts", "gap", "marks", "later", "ends", "found", "low", "depth", "origins", "high", "origin", "sizes", "spot"] ["place", "row"] (defScope s_law_due) := ⟨rfl, rfl, rfl, by decide +kernel, rfl, by decide +kernel, by decide +kernel⟩
abbrev s_layout_by_form : Stmt := topS 18
theorem sc_layout_by_form : FnScope ["layout", "form", "sizes", "start", "length", "typed"] ["layout", "form"] (defScope s_layout_by_form) := ⟨rfl, rfl, rfl, by decide +kernel, rfl, by decide +kernel, by decide +kernel⟩
abbrev s_law_right : Stmt := topS 31
theorem sc_law_right : FnScope ["bag", "place", "row", "form_here", "due", "told", "again", "gap"] ["bag"] (defScope s_law_right) := ⟨rfl, rfl, rfl, by decide +kernel, rfl, by decide +kernel, by decide +kernel⟩
abbrev s_law : Stmt := topS 32
theorem sc_law : FnScope ["script", "k", "bag", "turn", "told"] ["script"] (defScope s_law) := ⟨rfl, rfl, rfl, by decide +kernel, rfl, by decide +kernel, by decide +kernel⟩
structure Tx (K : PySem.W.Frag) (mg : Str → Option Value) (a : Nat → Addr) (g : Nat → FuncData) : Prop where
  m_law_same : mg "_law_same" = some (.ref (a 0))
  f_law_same : Fun K "_law_same" "_law_same" s_law_same (a 0) (g 0)
  m_law_bag : mg "_law_bag" = some (.ref (a 1))
  f_law_bag : Fun K "_law_bag" "_law_bag" s_law_bag (a 1) (g 1)
  m_is_integer : mg "is_integer" = some (.ref (a 2))
  f_is_integer : Fun K "is_integer" "is_integer" s_is_integer (a 2) (g 2)
  m_is_layout : mg "is_layout" = some (.ref (a 3))
  f_is_layout : Fun K "is_layout" "is_layout" s_is_layout (a 3) (g 3)
  m_check_layout : mg "check_layout" = some (.ref (a 4))
  f_check_layout : Fun K "check_layout" "check_layout" s_check_layout (a 4) (g 4)
  m_is_form : mg "is_form" = some (.ref (a 5))
  f_is_form : Fun K "is_form" "is_form" s_is_form (a 5) (g 5)
  m_check_form : mg "check_form" = some (.ref (a 6))
  f_check_form : Fun K "check_form" "check_form" s_check_form (a 6) (g 6)
  m_check_both : mg "check_both" = some (.ref (a 7))
  f_check_both : Fun K "check_both" "check_both" s_check_both (a 7) (g 7)
  m_gap_piece : mg "gap_piece" = some (.ref (a 8))
  f_gap_piece : Fun K "gap_piece" "gap_piece" s_gap_piece (a 8) (g 8)
  m_pieces_from : mg "pieces_from" = some (.ref (a 9))
  f_pieces_from : Fun K "pieces_from" "pieces_from" s_pieces_from (a 9) (g 9)
  m_pieces_after : mg "pieces_after" = some (.ref (a 10))
  f_pieces_after : Fun K "pieces_after" "pieces_after" s_pieces_after (a 10) (g 10)
  m_law_cell_at : mg "_law_cell_at" = some (.ref (a 11))
  f_law_cell_at : Fun K "_law_cell_at" "_law_cell_at" s_law_cell_at (a 11) (g 11)
  m_law_take : mg "_law_take" = some (.ref (a 12))
  f_law_take : Fun K "_law_take" "_law_take" s_law_take (a 12) (g 12)
  m_law_layout : mg "_law_layout" = some (.ref (a 13))
  f_law_layout : Fun K "_law_layout" "_law_layout" s_law_layout (a 13) (g 13)
  m_law_still : mg "_law_still" = some (.ref (a 14))
  f_law_still : Fun K "_law_still" "_law_still" s_law_still (a 14) (g 14)
  m_law_form : mg "_law_form" = some (.ref (a 15))
  f_law_form : Fun K "_law_form" "_law_form" s_law_form (a 15) (g 15)
  m_law_moved : mg "_law_moved" = some (.ref (a 16))
  f_law_moved : Fun K "_law_moved" "_law_moved" s_law_moved (a 16) (g 16)
  m_law_pressed : mg "_law_pressed" = some (.ref (a 17))
  f_law_pressed : Fun K "_law_pressed" "_law_pressed" s_law_pressed (a 17) (g 17)
  m_law_piece : mg "_law_piece" = some (.ref (a 18))
  f_law_piece : Fun K "_law_piece" "_law_piece" s_law_piece (a 18) (g 18)
  m_law_due : mg "_law_due" = some (.ref (a 19))
  f_law_due : Fun K "_law_due" "_law_due" s_law_due (a 19) (g 19)
  m_layout_by_form : mg "layout_by_form" = some (.ref (a 20))
  f_layout_by_form : Fun K "layout_by_form" "layout_by_form" s_layout_by_form (a 20) (g 20)
  m_law_right : mg "_law_right" = some (.ref (a 21))
  f_law_right : Fun K "_law_right" "_law_right" s_law_right (a 21) (g 21)
  m_law : mg "law" = some (.ref (a 22))
  f_law : Fun K "law" "law" s_law (a 22) (g 22)
  cl_InvalidForm : ∃ C bm, mg "InvalidForm" = some (.ref C) ∧ PySem.W.excIn K C [.type "ValueError", .type "Exception", .type "BaseException", .type "object"] "ValueError.__new__" = true ∧ PySem.W.keepIn K (.ref C) = true ∧ PySem.W.subIn K (.ref C) (.type "BaseException") = some true ∧ PySem.W.typeIn K (.ref C) = some (.type "type") ∧ bm = C
  cl_InvalidLayout : ∃ C bm, mg "InvalidLayout" = some (.ref C) ∧ PySem.W.excIn K C [.type "ValueError", .type "Exception", .type "BaseException", .type "object"] "ValueError.__new__" = true ∧ PySem.W.keepIn K (.ref C) = true ∧ PySem.W.subIn K (.ref C) (.type "BaseException") = some true ∧ PySem.W.typeIn K (.ref C) = some (.type "type") ∧ bm = C
  cx_LETTERS : ∃ t, mg "LETTERS" = some (.str cLow t)
  z_all : mg "all" = none
  z_bool : mg "bool" = none
  z_enumerate : mg "enumerate" = none
  z_int : mg "int" = none
  z_isinstance : mg "isinstance" = none
  z_len : mg "len" = none
  z_list : mg "list" = none
  z_max : mg "max" = none
  z_min : mg "min" = none
  z_range : mg "range" = none
  z_set : mg "set" = none
  z_sorted : mg "sorted" = none
  z_str : mg "str" = none
  z_tuple : mg "tuple" = none
  z_zip : mg "zip" = none
section
variable {P : Program} {w : World} {K : PySem.W.Frag} {mg : Str → Option Value} {base : Heap} {a : Nat → Addr} {g : Nat → FuncData}
theorem Tx.k_law_same (T : Tx K mg a g) : PySem.W.keepIn K (.ref (a 0)) = true := T.f_law_same.kp
theorem Tx.b_law_same (T : Tx K mg a g) : Binds K (g 0) ["found", "due"] [] := T.f_law_same.binds fun _ _ _ _ _ _ us hl => match us, hl with | [_, _], _ => rfl
theorem Tx.k_law_bag (T : Tx K mg a g) : PySem.W.keepIn K (.ref (a 1)) = true := T.f_law_bag.kp
theorem Tx.b_law_bag (T : Tx K mg a g) : Binds K (g 1) ["cell", "k"] [] := T.f_law_bag.binds fun _ _ _ _ _ _ us hl => match us, hl with | [_, _], _ => rfl
theorem Tx.k_is_integer (T : Tx K mg a g) : PySem.W.keepIn K (.ref (a 2)) = true := T.f_is_integer.kp
theorem Tx.b_is_integer (T : Tx K mg a g) : Binds K (g 2) ["value", "low", "high"] [] := T.f_is_integer.binds fun _ _ _ _ _ _ us hl => match us, hl with | [_, _, _], _ => rfl
theorem Tx.k_is_layout (T : Tx K mg a g) : PySem.W.keepIn K (.ref (a 3)) = true := T.f_is_layout.kp
theorem Tx.b_is_layout (T : Tx K mg a g) : Binds K (g 3) ["value"] [] := T.f_is_layout.binds fun _ _ _ _ _ _ us hl => match us, hl with | [_], _ => rfl
theorem Tx.k_check_layout (T : Tx K mg a g) : PySem.W.keepIn K (.ref (a 4)) = true := T.f_check_layout.kp
theorem Tx.b_check_layout (T : Tx K mg a g) : Binds K (g 4) ["layout"] [] := T.f_check_layout.binds fun _ _ _ _ _ _ us hl => match us, hl with | [_], _ => rfl
theorem Tx.k_is_form (T : Tx K mg a g) : PySem.W.keepIn K (.ref (a 5)) = true := T.f_is_form.kp
theorem Tx.b_is_form (T : Tx K mg a g) : Binds K (g 5) ["value"] [] := T.f_is_form.binds fun _ _ _ _ _ _ us hl => match us, hl with | [_], _ => rfl
theorem Tx.k_check_form (T : Tx K mg a g) : PySem.W.keepIn K (.ref (a 6)) = true := T.f_check_form.kp
theorem Tx.b_check_form (T : Tx K mg a g) : Binds K (g 6) ["form"] [] := T.f_check_form.binds fun _ _ _ _ _ _ us hl => match us, hl with | [_], _ => rfl
theorem Tx.k_check_both (T : Tx K mg a g) : PySem.W.keepIn K (.ref (a 7)) = true := T.f_check_both.kp
theorem Tx.b_check_both (T : Tx K mg a g) : Binds K (g 7) ["layout", "form"] [] := T.f_check_both.binds fun _ _ _ _ _ _ us hl => match us, hl with | [_, _], _ => rfl
theorem Tx.k_gap_piece (T : Tx K mg a g) : PySem.W.keepIn K (.ref (a 8)) = true := T.f_gap_piece.kp
theorem Tx.b_gap_piece (T : Tx K mg a g) : Binds K (g 8) ["gap", "form"] [] := T.f_gap_piece.binds fun _ _ _ _ _ _ us hl => match us, hl with | [_, _], _ => rfl
theorem Tx.k_pieces_from (T : Tx K mg a g) : PySem.W.keepIn K (.ref (a 9)) = true := T.f_pieces_from.kp
theorem Tx.b_pieces_from (T : Tx K mg a g) : Binds K (g 9) ["layout", "form"] [] := T.f_pieces_from.binds fun _ _ _ _ _ _ us hl => match us, hl with | [_, _], _ => rfl
theorem Tx.k_pieces_after (T : Tx K mg a g) : PySem.W.keepIn K (.ref (a 10)) = true := T.f_pieces_after.kp
theorem Tx.b_pieces_after (T : Tx K mg a g) : Binds K (g 10) ["layout", "form"] [] := T.f_pieces_after.binds fun _ _ _ _ _ _ us hl => match us, hl with | [_, _], _ => rfl
theorem Tx.k_law_cell_at (T : Tx K mg a g) : PySem.W.keepIn K (.ref (a 11)) = true := T.f_law_cell_at.kp
theorem Tx.b_law_cell_at (T : Tx K mg a g) : Binds K (g 11) ["script", "k"] [] := T.f_law_cell_at.binds fun _ _ _ _ _ _ us hl => match us, hl with | [_, _], _ => rfl
theorem Tx.k_law_take (T : Tx K mg a g) : PySem.W.keepIn K (.ref (a 12)) = true := T.f_law_take.kp
theorem Tx.b_law_take (T : Tx K mg a g) : Binds K (g 12) ["bag", "limit"] [] := T.f_law_take.binds fun _ _ _ _ _ _ us hl => match us, hl with | [_, _], _ => rfl
theorem Tx.k_law_layout (T : Tx K mg a g) : PySem.W.keepIn K (.ref (a 13)) = true := T.f_law_layout.kp
theorem Tx.b_law_layout (T : Tx K mg a g) : Binds K (g 13) ["bag", "top", "most"] [] := T.f_law_layout.binds fun _ _ _ _ _ _ us hl => match us, hl with | [_, _, _], _ => rfl
theorem Tx.k_law_still (T : Tx K mg a g) : PySem.W.keepIn K (.ref (a 14)) = true := T.f_law_still.kp
theorem Tx.b_law_still (T : Tx K mg a g) : Binds K (g 14) ["bag", "top"] [] := T.f_law_still.binds fun _ _ _ _ _ _ us hl => match us, hl with | [_, _], _ => rfl
theorem Tx.k_law_form (T : Tx K mg a g) : PySem.W.keepIn K (.ref (a 15)) = true := T.f_law_form.kp
theorem Tx.b_law_form (T : Tx K mg a g) : Binds K (g 15) ["row"] [] := T.f_law_form.binds fun _ _ _ _ _ _ us hl => match us, hl with | [_], _ => rfl
theorem Tx.k_law_moved (T : Tx K mg a g) : PySem.W.keepIn K (.ref (a 16)) = true := T.f_law_moved.kp
theorem Tx.b_law_moved (T : Tx K mg a g) : Binds K (g 16) ["marks", "spots", "one"] [] := T.f_law_moved.binds fun _ _ _ _ _ _ us hl => match us, hl with | [_, _, _], _ => rfl
theorem Tx.k_law_pressed (T : Tx K mg a g) : PySem.W.keepIn K (.ref (a 17)) = true := T.f_law_pressed.kp
theorem Tx.b_law_pressed (T : Tx K mg a g) : Binds K (g 17) ["marks", "spots", "row"] [] := T.f_law_pressed.binds fun _ _ _ _ _ _ us hl => match us, hl with | [_, _, _], _ => rfl
theorem Tx.k_law_piece (T : Tx K mg a g) : PySem.W.keepIn K (.ref (a 18)) = true := T.f_law_piece.kp
theorem Tx.b_law_piece (T : Tx K mg a g) : Binds K (g 18) ["part", "origin"] [] := T.f_law_piece.binds fun _ _ _ _ _ _ us hl => match us, hl with | [_, _], _ => rfl
theorem Tx.k_law_due (T : Tx K mg a g) : PySem.W.keepIn K (.ref (a 19)) = true := T.f_law_due.kp
theorem Tx.b_law_due (T : Tx K mg a g) : Binds K (g 19) ["place", "row"] [] := T.f_law_due.binds fun _ _ _ _ _ _ us hl => match us, hl with | [_, _], _ => rfl
theorem Tx.k_layout_by_form (T : Tx K mg a g) : PySem.W.keepIn K (.ref (a 20)) = true := T.f_layout_by_form.kp
theorem Tx.b_layout_by_form (T : Tx K mg a g) : Binds K (g 20) ["layout", "form"] [] := T.f_layout_by_form.binds fun _ _ _ _ _ _ us hl => match us, hl with | [_, _], _ => rfl
theorem Tx.k_law_right (T : Tx K mg a g) : PySem.W.keepIn K (.ref (a 21)) = true := T.f_law_right.kp
theorem Tx.b_law_right (T : Tx K mg a g) : Binds K (g 21) ["bag"] [] := T.f_law_right.binds fun _ _ _ _ _ _ us hl => match us, hl with | [_], _ => rfl
theorem Tx.k_law (T : Tx K mg a g) : PySem.W.keepIn K (.ref (a 22)) = true := T.f_law.kp
theorem Tx.b_law (T : Tx K mg a g) : Binds K (g 22) ["script"] [] := T.f_law.binds fun _ _ _ _ _ _ us hl => match us, hl with | [_], _ => rfl
theorem Tx.kb_layout_by_form_0_form_layout (T : Tx K mg a g) : KB K (g 20) ["layout", "form"] 0 ["form", "layout"] [1, 0] := by
  intro s us ws _ h1 h2
  obtain ⟨oc, od, kV, doc, pm, an, cdv, ct, osl, e, _, _⟩ := T.f_layout_by_form.ex
  rw [e]
  match us, ws, h1, h2 with
  | [], [_, _], _, _ => exact .of_eq rfl
theorem Tx.kb_pieces_after_0_form_layout (T : Tx K mg a g) : KB K (g 10) ["layout", "form"] 0 ["form", "layout"] [1, 0] := by
  intro s us ws _ h1 h2
  obtain ⟨oc, od, kV, doc, pm, an, cdv, ct, osl, e, _, _⟩ := T.f_pieces_after.ex
  rw [e]
  match us, ws, h1, h2 with
  | [], [_, _], _, _ => exact .of_eq rfl
theorem ok_law_same (T : Tx K mg a g) : ∀ n : Nat, FnG P w K mg base (n + 1) (a 0) (g 0) ["found", "due"] (F_law_same_v1 n)
  | 0 => ⟨fun _ _ _ _ _ _ _ _ _ _ _ _ _ _ h => by
    obtain ⟨_, _, _, _, _, _, _, _, _, z, _⟩ := h
    exact z.elim⟩
  | n + 1 => by
    have ih := ok_law_same T n
    refine fnG_of (k := n + 1) T.f_law_same sc_law_same fun cdv A outer s H E hr hgd => ?_
    have hN := sc_law_same.nd
    exact (sb_cons (ss_if (st_tru (se_isi2 T.z_isinstance T.z_list T.z_tuple rfl rfl (by decide) (by decide) (se_var 1))) (sb_cons (ss_if (st_w (sw_or (st_cmp (o_ne hr.units) (se_isi T.z_isinstance T.z_list rfl (by decide) (se_var 0)) (se_isi T.z_isinstance T.z_list rfl (by decide) (se_var 1))) (sw_or1 (st_not (st_tru (se_isi2 T.z_isinstance T.z_list T.z_tuple rfl rfl (by decide) (by decide) (se_var 0))))))) (sb_one (ss_ret se_bl)) sb_nil)
    (sb_cons (ss_if (st_cmp (o_ne hr.units) (se_blt rfl (o_len) T.z_len (sa_cons (se_var 0) sa_nil)) (se_blt rfl (o_len) T.z_len (sa_cons (se_var 1) sa_nil))) (sb_one (ss_ret se_bl)) sb_nil)
    (sb_one (ss_ret (se_blt rfl (o_all rfl) T.z_all (sa_cons (se_dat (sl_lcw [("k", 2)] rfl hN (si_rng1 T.z_range (sa_cons (se_blt rfl (o_len) T.z_len (sa_cons (se_var 1) sa_nil)) sa_nil)) (by show blkC ["found", "due", "k"] (defScope s_law_same) _ [("k", 2)] = true; decide +kernel) (fun s H C cl fp => (sg_nm 2 hN)) (fun s H C cl fp => sts_nil) (fun s H C cl fp => (sc_call (ih.mono (Nat.le_refl _)) hr hgd takes0 T.m_law_same T.k_law_same T.b_law_same (sa_cons (se_ix o_ix (se_var 0) (se_var 2)) (sa_cons (se_ix o_ix (se_var 1) (se_var 2)) sa_nil)))))) sa_nil)))))) sb_nil)
    (sb_cons (ss_if (st_w (sw_or (st_cmp (o_is) (se_var 1) se_non) (sw_or1 (st_cmp (o_is) (se_var 0) se_non)))) (sb_one (ss_ret (se_and (se_cmp (o_is) (se_var 1) se_non) (se_one (se_cmp (o_is) (se_var 0) se_non))))) sb_nil)
    (sb_cons (ss_if (st_w (sw_or (st_tru (se_isi T.z_isinstance T.z_bool rfl (by decide) (se_var 1))) (sw_or1 (st_tru (se_isi T.z_isinstance T.z_bool rfl (by decide) (se_var 0)))))) (sb_one (ss_ret (se_and (se_isi T.z_isinstance T.z_bool rfl (by decide) (se_var 1)) (se_and (se_isi T.z_isinstance T.z_bool rfl (by decide) (se_var 0)) (se_one (se_cmp (o_eq hr.units) (se_var 0) (se_var 1))))))) sb_nil)
    (sb_one (ss_ret (se_cmp (o_eq hr.units) (se_var 0) (se_var 1)))))))
theorem ok_law_bag (T : Tx K mg a g) : FnG P w K mg base 1 (a 1) (g 1) ["cell", "k"] F_law_bag := by
  refine fnG_of T.f_law_bag sc_law_bag fun cdv A outer s H E hr hgd => ?_
  have hN := sc_law_bag.nd
  exact (sb_one (ss_ret (se_loc (sl_lst (sa_cons (se_blt rfl (o_max rfl) T.z_max (sa_cons se_int (sa_cons (se_op o_sub (se_var 0) (se_op o_pow se_int se_int)) sa_nil))) (sa_cons (se_op o_add (se_op o_mod (se_var 0) se_int) (se_op o_mul se_int (se_op o_add (se_var 1) se_int))) (sa_cons se_int sa_nil)))))))
theorem ok_is_integer (T : Tx K mg a g) : FnG P w K mg base 1 (a 2) (g 2) ["value", "low", "high"] F_is_integer := by
  refine fnG_of T.f_is_integer sc_is_integer fun cdv A outer s H E hr hgd => ?_
  have hN := sc_is_integer.nd
  exact (sb_cons (ss_if (st_w (sw_or (st_not (st_tru (se_isi T.z_isinstance T.z_int rfl (by decide) (se_var 0)))) (sw_or1 (st_tru (se_isi T.z_isinstance T.z_bool rfl (by decide) (se_var 0)))))) (sb_one (ss_ret se_bl)) sb_nil)
    (sb_one (ss_ret (se_and (se_cmp (o_ge) (se_var 0) (se_var 1)) (se_one (se_or (se_cmp (o_is) (se_var 2) se_non) (se_one (se_cmp (o_le) (se_var 0) (se_var 2)))))))))
theorem ok_is_layout (T : Tx K mg a g) (G_is_integer : FnG P w K mg base 1 (a 2) (g 2) ["value", "low", "high"] F_is_integer) : FnG P w K mg base 2 (a 3) (g 3) ["value"] F_is_layout := by
  refine fnG_of T.f_is_layout sc_is_layout fun cdv A outer s H E hr hgd => ?_
  have hN := sc_is_layout.nd
  exact (sb_cons (ss_if (st_w (sw_or (st_not (st_tru (se_isi T.z_isinstance T.z_tuple rfl (by decide) (se_var 0)))) (sw_or (st_cmp (o_ne hr.units) (se_blt rfl (o_len) T.z_len (sa_cons (se_var 0) sa_nil)) se_int) (sw_or1 (st_not (st_tru (se_isi T.z_isinstance T.z_tuple rfl (by decide) (se_ix o_ix (se_var 0) se_int)))))))) (sb_one (ss_ret se_bl)) sb_nil)
    (sb_cons (ss_if (st_w (sw_or (st_not (st_tru (sc_call (G_is_integer.mono (by decide : 1 ≤ 1)) hr hgd (takes_of rfl rfl rfl rfl) T.m_is_integer T.k_is_integer T.b_is_integer (sa_cons (se_ix o_ix (se_var 0) se_int) (sa_cons se_int (sa_cons se_non sa_nil)))))) (sw_or1 (st_not (st_tru (sc_call (G_is_integer.mono (by decide : 1 ≤ 1)) hr hgd (takes_of rfl rfl rfl rfl) T.m_is_integer T.k_is_integer T.b_is_integer (sa_cons (se_ix o_ix (se_var 0) se_int) (sa_cons se_int (sa_cons se_non sa_nil))))))))) (sb_one (ss_ret se_bl)) sb_nil)
    (sb_one (ss_ret (se_blt rfl (o_all rfl) T.z_all (sa_cons (se_dat (sl_lcw [("gap", 1)] rfl hN (si_it (se_ix o_ix (se_var 0) se_int)) (by show blkC ["value", "gap"] (defScope s_is_layout) _ [("gap", 1)] = true; decide +kernel) (fun s H C cl fp => (sg_nm 1 hN)) (fun s H C cl fp => sts_nil) (fun s H C cl fp => (sc_call (G_is_integer.mono (by decide : 1 ≤ 1)) hr hgd takes0 T.m_is_integer T.k_is_integer T.b_is_integer (sa_cons (se_var 1) (sa_cons se_int (sa_cons se_non sa_nil))))))) sa_nil))))))
theorem ok_check_layout (T : Tx K mg a g) (G_is_layout : FnG P w K mg base 2 (a 3) (g 3) ["value"] F_is_layout) : FnG P w K mg base 3 (a 4) (g 4) ["layout"] F_check_layout := by
  obtain ⟨_, _, g_InvalidLayout, x_InvalidLayout, kc_InvalidLayout, sb_InvalidLayout, ty_InvalidLayout, _⟩ := T.cl_InvalidLayout
  refine fnG_of T.f_check_layout sc_check_layout fun cdv A outer s H E hr hgd => ?_
  have hN := sc_check_layout.nd
  exact (sb_one (ss_if (st_not (st_tru (sc_call (G_is_layout.mono (by decide : 2 ≤ 2)) hr hgd (takes_of rfl rfl rfl rfl) T.m_is_layout T.k_is_layout T.b_is_layout (sa_cons (se_var 0) sa_nil)))) (sb_one (ss_raise0 PySem.F.excBase_ValueError x_InvalidLayout g_InvalidLayout kc_InvalidLayout sb_InvalidLayout ty_InvalidLayout (takes_of rfl rfl rfl rfl))) sb_nil))
theorem ok_is_form (T : Tx K mg a g) (G_is_integer : FnG P w K mg base 1 (a 2) (g 2) ["value", "low", "high"] F_is_integer) : FnG P w K mg base 2 (a 5) (g 5) ["value"] F_is_form := by
  obtain ⟨_, c_LETTERS⟩ := T.cx_LETTERS
  refine fnG_of T.f_is_form sc_is_form fun cdv A outer s H E hr hgd => ?_
  have hN := sc_is_form.nd
  exact (sb_cons (ss_if (st_w (sw_or (st_not (st_tru (se_isi T.z_isinstance T.z_tuple rfl (by decide) (se_var 0)))) (sw_or1 (st_cmp (o_ne hr.units) (se_blt rfl (o_len) T.z_len (sa_cons (se_var 0) sa_nil)) se_int)))) (sb_one (ss_ret se_bl)) sb_nil)
    (sb_cons (ss_unp (se_var 0) (sg_tp (pgs_cons (sg_nm 1 hN) (pgs_cons (sg_nm 2 hN) (pgs_cons (sg_nm 3 hN) (pgs_cons (sg_nm 4 hN) pgs_nil)))) rfl))
    (sb_cons (ss_if (st_not (st_tru (se_blt rfl (o_all rfl) T.z_all (sa_cons (se_dat (sl_lcw [("number", 5)] rfl hN (si_it (se_tup (sa_cons (se_var 1) (sa_cons (se_var 3) (sa_cons (se_var 4) sa_nil))))) (by show blkC ["value", "back", "word", "ahead", "depth", "number", "letter"] (defScope s_is_form) _ [("number", 5)] = true; decide +kernel) (fun s H C cl fp => (sg_nm 5 hN)) (fun s H C cl fp => sts_nil) (fun s H C cl fp => (sc_call (G_is_integer.mono (by decide : 1 ≤ 1)) hr hgd takes0 T.m_is_integer T.k_is_integer T.b_is_integer (sa_cons (se_var 5) (sa_cons se_int (sa_cons se_non sa_nil))))))) sa_nil)))) (sb_one (ss_ret se_bl)) sb_nil)
    (sb_cons (ss_if (st_w (sw_or (st_not (st_tru (se_isi T.z_isinstance T.z_str rfl (by decide) (se_var 2)))) (sw_or1 (st_not (st_tru (se_blt rfl (o_all rfl) T.z_all (sa_cons (se_dat (sl_lcw [("letter", 6)] rfl hN (si_it (se_var 2)) (by show blkC ["value", "back", "word", "ahead", "depth", "number", "letter"] (defScope s_is_form) _ [("letter", 6)] = true; decide +kernel) (fun s H C cl fp => (sg_nm 6 hN)) (fun s H C cl fp => sts_nil) (fun s H C cl fp => (se_cmp (o_in) (se_var 6) (se_gstr c_LETTERS))))) sa_nil))))))) (sb_one (ss_ret se_bl)) sb_nil)
    (sb_one (ss_ret (se_chain (o_le) (o_le) (se_blt rfl (o_max rfl) T.z_max (sa_cons (se_var 1) (sa_cons (se_op o_sub (se_op o_add (se_var 3) (se_var 1)) (se_blt rfl (o_len) T.z_len (sa_cons (se_var 2) sa_nil))) sa_nil))) (se_var 4) (se_op o_add (se_var 3) (se_var 1)))))))))
theorem ok_check_form (T : Tx K mg a g) (G_is_form : FnG P w K mg base 2 (a 5) (g 5) ["value"] F_is_form) : FnG P w K mg base 3 (a 6) (g 6) ["form"] F_check_form := by
  obtain ⟨_, _, g_InvalidForm, x_InvalidForm, kc_InvalidForm, sb_InvalidForm, ty_InvalidForm, _⟩ := T.cl_InvalidForm
  refine fnG_of T.f_check_form sc_check_form fun cdv A outer s H E hr hgd => ?_
  have hN := sc_check_form.nd
  exact (sb_one (ss_if (st_not (st_tru (sc_call (G_is_form.mono (by decide : 2 ≤ 2)) hr hgd (takes_of rfl rfl rfl rfl) T.m_is_form T.k_is_form T.b_is_form (sa_cons (se_var 0) sa_nil)))) (sb_one (ss_raise0 PySem.F.excBase_ValueError x_InvalidForm g_InvalidForm kc_InvalidForm sb_InvalidForm ty_InvalidForm (takes_of rfl rfl rfl rfl))) sb_nil))
theorem ok_check_both (T : Tx K mg a g) (G_check_layout : FnG P w K mg base 3 (a 4) (g 4) ["layout"] F_check_layout) (G_check_form : FnG P w K mg base 3 (a 6) (g 6) ["form"] F_check_form) : FnG P w K mg base 4 (a 7) (g 7) ["layout", "form"] F_check_both := by
  refine fnG_of T.f_check_both sc_check_both fun cdv A outer s H E hr hgd => ?_
  have hN := sc_check_both.nd
  exact (sb_cons (ss_expr (sc_call (G_check_layout.mono (by decide : 3 ≤ 3)) hr hgd (takes_of rfl rfl rfl rfl) T.m_check_layout T.k_check_layout T.b_check_layout (sa_cons (se_var 0) sa_nil)))
    (sb_one (ss_expr (sc_call (G_check_form.mono (by decide : 3 ≤ 3)) hr hgd (takes_of rfl rfl rfl rfl) T.m_check_form T.k_check_form T.b_check_form (sa_cons (se_var 1) sa_nil)))))
theorem ok_gap_piece (T : Tx K mg a g) : FnG P w K mg base 1 (a 8) (g 8) ["gap", "form"] F_gap_piece := by
  refine fnG_of T.f_gap_piece sc_gap_piece fun cdv A outer s H E hr hgd => ?_
  have hN := sc_gap_piece.nd
  exact (sb_cons (ss_unp (se_var 1) (sg_tp (pgs_cons (sg_nm 2 hN) (pgs_cons (sg_nm 3 hN) (pgs_cons (sg_nm 4 hN) (pgs_cons (sg_nm 5 hN) pgs_nil)))) rfl))
    (sb_cons (ss_set 6 (se_op o_sub (se_var 0) (se_var 2)) hN)
    (sb_cons (ss_if (st_cmp (o_lt) (se_var 4) (se_var 6)) (sb_one (ss_ret (se_tup (sa_cons (se_var 4) (sa_cons (se_op o_sub (se_var 6) (se_var 4)) (sa_cons (se_var 3) sa_nil)))))) sb_nil)
    (sb_one (ss_ret (se_tup (sa_cons se_int (sa_cons se_int (sa_cons (se_sl o_sl (se_var 3) (so_some (se_op o_sub (se_var 4) (se_var 6))) so_no) sa_nil)))))))))
theorem ok_pieces_from (T : Tx K mg a g) (G_gap_piece : FnG P w K mg base 1 (a 8) (g 8) ["gap", "form"] F_gap_piece) : FnG P w K mg base 2 (a 9) (g 9) ["layout", "form"] F_pieces_from := by
  refine fnG_of T.f_pieces_from sc_pieces_from fun cdv A outer s H E hr hgd => ?_
  have hN := sc_pieces_from.nd
  exact (sb_cons (ss_unp (se_var 0) (sg_tp (pgs_cons (sg_nm 2 hN) (pgs_cons (sg_nm 3 hN) (pgs_cons (sg_nm 4 hN) pgs_nil))) rfl))
    (sb_cons (ss_unp (se_var 1) (sg_tp (pgs_cons (sg_nm 5 hN) (pgs_cons (sg_nm 6 hN) (pgs_cons (sg_nm 7 hN) (pgs_cons (sg_nm 8 hN) pgs_nil)))) rfl))
    (sb_cons (ss_set 9 (se_loc (sl_lst (sa_cons (se_tup (sa_cons se_int (sa_cons (se_blt rfl (o_max rfl) T.z_max (sa_cons se_int (sa_cons (se_op o_sub (se_var 2) (se_var 5)) sa_nil))) (sa_cons (se_var 6) sa_nil)))) sa_nil))) hN)
    (sb_cons (ss_expr (se_u PySem.F.slot_list_extend PySem.F.type_list_extend o_extend (se_var 9) (sa_cons (se_dat (sl_lcw [("gap", 10)] rfl hN (si_it (se_var 3)) (by show blkC ["layout", "form", "before", "gaps", "behind", "back", "word", "ahead", "depth", "found", "gap"] (defScope s_pieces_from) _ [("gap", 10)] = true; decide +kernel) (fun s H C cl fp => (sg_nm 10 hN)) (fun s H C cl fp => (sts_one (st_cmp (o_gt) (se_var 10) (se_var 8)))) (fun s H C cl fp => (sc_call (G_gap_piece.mono (by decide : 1 ≤ 1)) hr hgd takes0 T.m_gap_piece T.k_gap_piece T.b_gap_piece (sa_cons (se_var 10) (sa_cons (se_var 1) sa_nil)))))) sa_nil)))
    (sb_cons (ss_expr (se_u PySem.F.slot_list_append PySem.F.type_list_append o_append (se_var 9) (sa_cons (se_tup (sa_cons (se_if (st_cmp (o_lt) (se_var 7) (se_var 4)) (se_var 7) se_int) (sa_cons (se_blt rfl (o_max rfl) T.z_max (sa_cons se_int (sa_cons (se_op o_sub (se_var 4) (se_var 7)) sa_nil))) (sa_cons (se_str (by decide +kernel)) sa_nil)))) sa_nil)))
    (sb_one (ss_ret (se_var 9))))))))
theorem ok_pieces_after (T : Tx K mg a g) (G_check_both : FnG P w K mg base 4 (a 7) (g 7) ["layout", "form"] F_check_both) (G_pieces_from : FnG P w K mg base 2 (a 9) (g 9) ["layout", "form"] F_pieces_from) : FnG P w K mg base 5 (a 10) (g 10) ["layout", "form"] F_pieces_after := by
  refine fnG_of T.f_pieces_after sc_pieces_after fun cdv A outer s H E hr hgd => ?_
  have hN := sc_pieces_after.nd
  exact (sb_cons (ss_expr (sc_call (G_check_both.mono (by decide : 4 ≤ 4)) hr hgd (takes_of rfl rfl rfl rfl) T.m_check_both T.k_check_both T.b_check_both (sa_cons (se_var 0) (sa_cons (se_var 1) sa_nil))))
    (sb_one (ss_ret (sc_call (G_pieces_from.mono (by decide : 2 ≤ 4)) hr hgd (takes_of rfl rfl rfl rfl) T.m_pieces_from T.k_pieces_from T.b_pieces_from (sa_cons (se_var 0) (sa_cons (se_var 1) sa_nil))))))
theorem ok_law_cell_at (T : Tx K mg a g) : FnG P w K mg base 1 (a 11) (g 11) ["script", "k"] F_law_cell_at := by
  refine fnG_of T.f_law_cell_at sc_law_cell_at fun cdv A outer s H E hr hgd => ?_
  have hN := sc_law_cell_at.nd
  exact (sb_cons (ss_if (st_cmp (o_lt) (se_var 1) (se_scrLen T.z_len (se_var 0))) (sb_one (ss_ret (se_scrAt (se_var 0) (se_var 1)))) sb_nil)
    (sb_one (ss_ret se_int)))
theorem ok_law_take (T : Tx K mg a g) : FnG P w K mg base 1 (a 12) (g 12) ["bag", "limit"] F_law_take := by
  refine fnG_of T.f_law_take sc_law_take fun cdv A outer s H E hr hgd => ?_
  have hN := sc_law_take.nd
  exact (sb_cons (ss_if (st_cmp (o_gt) (se_ix o_ix (se_var 0) se_int) se_int) (sb_cons (ss_set 2 (se_op o_mod (se_ix o_ix (se_var 0) se_int) (se_var 1)) hN)
    (sb_cons (ss_setI (se_op o_div (se_ix o_ix (se_var 0) se_int) (se_var 1)) (se_var 0) se_int)
    (sb_one (ss_ret (se_var 2))))) sb_nil)
    (sb_cons (ss_setI (se_op o_add (se_ix o_ix (se_var 0) se_int) se_int) (se_var 0) se_int)
    (sb_cons (ss_set 3 (se_op o_mod (se_op o_pow (se_op o_add (se_ix o_ix (se_var 0) se_int) (se_op o_mul se_int (se_ix o_ix (se_var 0) se_int))) se_int) se_int) hN)
    (sb_cons (ss_set 3 (se_op o_mod (se_op o_pow (se_op o_add (se_var 3) (se_op o_mul se_int (se_ix o_ix (se_var 0) se_int))) se_int) se_int) hN)
    (sb_one (ss_ret (se_op o_mod (se_op o_div (se_var 3) se_int) (se_var 1))))))))
theorem ok_law_layout (T : Tx K mg a g) (G_law_take : FnG P w K mg base 1 (a 12) (g 12) ["bag", "limit"] F_law_take) : FnG P w K mg base 2 (a 13) (g 13) ["bag", "top", "most"] F_law_layout_v1 := by
  refine fnG_of T.f_law_layout sc_law_layout fun cdv A outer s H E hr hgd => ?_
  have hN := sc_law_layout.nd
  exact (sb_cons (ss_set 3 (se_loc (sl_lst sa_nil)) hN)
    (sb_cons (ss_for (passes_of rfl) rfl (si_rng1 T.z_range (sa_cons (sc_call (G_law_take.mono (by decide : 1 ≤ 1)) hr hgd (takes_of rfl rfl rfl rfl) T.m_law_take T.k_law_take T.b_law_take (sa_cons (se_var 0) (sa_cons (se_op o_add (se_var 1) se_int) sa_nil))) sa_nil)) (sg_nm 4 hN) (sb_one (ss_expr (se_u PySem.F.slot_list_append PySem.F.type_list_append o_append (se_var 3) (sa_cons (se_op o_add se_int (sc_call (G_law_take.mono (by decide : 1 ≤ 1)) hr hgd (takes_of rfl rfl rfl rfl) T.m_law_take T.k_law_take T.b_law_take (sa_cons (se_var 0) (sa_cons (se_ix o_ix (se_dat (sl_lst (sa_cons se_int (sa_cons se_int (sa_cons (se_var 2) sa_nil))))) (sc_call (G_law_take.mono (by decide : 1 ≤ 1)) hr hgd (takes_of rfl rfl rfl rfl) T.m_law_take T.k_law_take T.b_law_take (sa_cons (se_var 0) (sa_cons se_int sa_nil)))) sa_nil)))) sa_nil)))))
    (sb_cons (ss_lcD (ps_lcw 5 [("turn", 4)] rfl hN (si_rng1 T.z_range (sa_cons se_int sa_nil)) (by show blkC ["bag", "top", "most", "gaps", "turn", "ends"] (defScope s_law_layout) _ [("turn", 4)] = true; decide +kernel) (fun s H C cl fp => (sg_nm 4 hN)) (fun s H C cl fp => sts_nil) (fun s H C cl fp => (sc_call (G_law_take.mono (by decide : 1 ≤ 1)) hr hgd takes0 T.m_law_take T.k_law_take T.b_law_take (sa_cons (se_var 0) (sa_cons (se_ix o_ix (se_dat (sl_lst (sa_cons se_int (sa_cons se_int (sa_cons (se_var 2) sa_nil))))) (sc_call (G_law_take.mono (by decide : 1 ≤ 1)) hr hgd takes0 T.m_law_take T.k_law_take T.b_law_take (sa_cons (se_var 0) (sa_cons se_int sa_nil)))) sa_nil))))))
    (sb_one (ss_ret (se_tup (sa_cons (se_ix o_ix (se_var 5) se_int) (sa_cons (se_bty boot_tuple o_tuple T.z_tuple (sa_cons (se_var 3) sa_nil)) (sa_cons (se_ix o_ix (se_var 5) se_int) sa_nil)))))))))
theorem ok_law_still (T : Tx K mg a g) (G_law_take : FnG P w K mg base 1 (a 12) (g 12) ["bag", "limit"] F_law_take) : FnG P w K mg base 2 (a 14) (g 14) ["bag", "top"] F_law_still := by
  refine fnG_of T.f_law_still sc_law_still fun cdv A outer s H E hr hgd => ?_
  have hN := sc_law_still.nd
  exact (sb_cons (ss_par2 2 3 (sa_cons (sc_call (G_law_take.mono (by decide : 1 ≤ 1)) hr hgd (takes_of rfl rfl rfl rfl) T.m_law_take T.k_law_take T.b_law_take (sa_cons (se_var 0) (sa_cons se_int sa_nil))) (sa_cons (se_str (by decide +kernel)) sa_nil)) rfl hN)
    (sb_cons (ss_for (passes_of rfl) rfl (si_rng1 T.z_range (sa_cons (sc_call (G_law_take.mono (by decide : 1 ≤ 1)) hr hgd (takes_of rfl rfl rfl rfl) T.m_law_take T.k_law_take T.b_law_take (sa_cons (se_var 0) (sa_cons (se_op o_add (se_var 1) se_int) sa_nil))) sa_nil)) (sg_nm 4 hN) (sb_cons (ss_set 5 (se_ix o_ix (se_dat (sl_lst (sa_cons (se_str (by decide +kernel)) (sa_cons (se_str (by decide +kernel)) (sa_cons (se_str (by decide +kernel)) (sa_cons (se_str (by decide +kernel)) sa_nil)))))) (se_var 2)) hN)
    (sb_one (ss_set 3 (se_op o_add (se_var 3) (se_ix o_ix (se_var 5) (sc_call (G_law_take.mono (by decide : 1 ≤ 1)) hr hgd (takes_of rfl rfl rfl rfl) T.m_law_take T.k_law_take T.b_law_take (sa_cons (se_var 0) (sa_cons (se_blt rfl (o_len) T.z_len (sa_cons (se_var 5) sa_nil)) sa_nil))))) hN))))
    (sb_one (ss_ret (se_var 3)))))
theorem ok_law_form (T : Tx K mg a g) : FnG P w K mg base 1 (a 15) (g 15) ["row"] F_law_form := by
  refine fnG_of T.f_law_form sc_law_form fun cdv A outer s H E hr hgd => ?_
  have hN := sc_law_form.nd
  exact (sb_cons (ss_parN (is := [1, 2, 3, 4]) (sa_cons (se_loc (sl_rg rfl T.z_list (sr_1 T.z_range se_int))) (sa_cons (se_loc (sl_rg rfl T.z_list (sr_2 T.z_range se_int se_int))) (sa_cons se_int (sa_cons se_int sa_nil)))) (pg_tup rfl (pgs_cons (sg_nm 1 hN) (pgs_cons (sg_nm 2 hN) (pgs_cons (sg_nm 3 hN) (pgs_cons (sg_nm 4 hN) pgs_nil))))))
    (sb_cons (ss_for (passes_of rfl) rfl (si_it (se_var 0)) (sg_nm 5 hN) (sb_cons (ss_if (st_cmp (o_eq hr.units) (se_var 5) (se_str (by decide +kernel))) (sb_one (ss_expr (se_u0 PySem.F.slot_list_pop PySem.F.type_list_pop o_pop (se_var 1)))) (sb_one (ss_if (st_cmp (o_eq hr.units) (se_var 5) (se_str (by decide +kernel))) (sb_one (ss_expr (se_u PySem.F.slot_list_pop PySem.F.type_list_pop o_pop (se_var 2) (sa_cons se_int sa_nil)))) (sb_one (ss_expr (se_u PySem.F.slot_list_append PySem.F.type_list_append o_append (se_var 1) (sa_cons (se_var 5) sa_nil)))))))
    (sb_cons (ss_set 4 (se_op o_add (se_var 4) (se_ix o_ix (se_dat (sl_lst (sa_cons (se_un o_neg se_int) (sa_cons se_int sa_nil)))) (se_bty boot_int o_int T.z_int (sa_cons (se_cmp (o_in) (se_var 5) (se_str (by decide +kernel))) sa_nil)))) hN)
    (sb_one (ss_set 3 (se_blt rfl (o_max rfl) T.z_max (sa_cons (se_var 3) (sa_cons (se_var 4) sa_nil))) hN)))))
    (sb_cons (ss_lcD (ps_lcw 6 [("thing", 8)] rfl hN (si_it (se_var 1)) (by show blkC ["row", "left", "right", "depth", "surplus", "one", "kept", "word", "thing"] (defScope s_law_form) _ [("thing", 8)] = true; decide +kernel) (fun s H C cl fp => (sg_nm 8 hN)) (fun s H C cl fp => (sts_one (st_tru (se_isi T.z_isinstance T.z_int rfl (by decide) (se_var 8))))) (fun s H C cl fp => (se_var 8))))
    (sb_cons (ss_set 7 (se_m PySem.F.plainAttrs_str PySem.F.slot_str_join PySem.F.type_str_join o_join (se_str (by decide +kernel)) (sa_cons (se_dat (sl_lcw [("thing", 8)] rfl hN (si_it (se_var 1)) (by show blkC ["row", "left", "right", "depth", "surplus", "one", "kept", "word", "thing"] (defScope s_law_form) _ [("thing", 8)] = true; decide +kernel) (fun s H C cl fp => (sg_nm 8 hN)) (fun s H C cl fp => (sts_one (st_tru (se_isi T.z_isinstance T.z_str rfl (by decide) (se_var 8))))) (fun s H C cl fp => (se_var 8)))) sa_nil)) hN)
    (sb_one (ss_ret (se_tup (sa_cons (se_op o_sub se_int (se_blt rfl (o_len) T.z_len (sa_cons (se_var 6) sa_nil))) (sa_cons (se_var 7) (sa_cons (se_op o_sub se_int (se_blt rfl (o_len) T.z_len (sa_cons (se_var 2) sa_nil))) (sa_cons (se_var 3) sa_nil)))))))))))
theorem ok_law_moved (T : Tx K mg a g) : FnG P w K mg base 1 (a 16) (g 16) ["marks", "spots", "one"] F_law_moved_v1 := by
  refine fnG_of T.f_law_moved sc_law_moved fun cdv A outer s H E hr hgd => ?_
  have hN := sc_law_moved.nd
  exact (sb_cons (ss_if (st_cmp (o_eq hr.units) (se_var 2) (se_str (by decide +kernel))) (sb_one (ss_ret (se_tup (sa_cons (se_var 0) (sa_cons (se_dat (sl_lcw [("spot", 5)] rfl hN (si_it (se_var 1)) (by show blkC ["marks", "spots", "one", "gone", "later", "spot", "index_gone", "place", "mark"] (defScope s_law_moved) _ [("spot", 5)] = true; decide +kernel) (fun s H C cl fp => (sg_nm 5 hN)) (fun s H C cl fp => sts_nil) (fun s H C cl fp => (se_blt rfl (o_max rfl) T.z_max (sa_cons se_int (sa_cons (se_op o_sub (se_var 5) se_int) sa_nil)))))) sa_nil))))) sb_nil)
    (sb_cons (ss_if (st_cmp (o_eq hr.units) (se_var 2) (se_str (by decide +kernel))) (sb_one (ss_ret (se_tup (sa_cons (se_var 0) (sa_cons (se_dat (sl_lcw [("spot", 5)] rfl hN (si_it (se_var 1)) (by show blkC ["marks", "spots", "one", "gone", "later", "spot", "index_gone", "place", "mark"] (defScope s_law_moved) _ [("spot", 5)] = true; decide +kernel) (fun s H C cl fp => (sg_nm 5 hN)) (fun s H C cl fp => sts_nil) (fun s H C cl fp => (se_blt rfl (o_min rfl) T.z_min (sa_cons (se_blt rfl (o_len) T.z_len (sa_cons (se_var 0) sa_nil)) (sa_cons (se_op o_add (se_var 5) se_int) sa_nil)))))) sa_nil))))) sb_nil)
    (sb_cons (ss_if (st_cmp (o_eq hr.units) (se_var 2) (se_str (by decide +kernel))) (sb_one (ss_set 3 (se_dat (sl_lcw [("spot", 5)] rfl hN (si_it (se_var 1)) (by show blkC ["marks", "spots", "one", "gone", "later", "spot", "index_gone", "place", "mark"] (defScope s_law_moved) _ [("spot", 5)] = true; decide +kernel) (fun s H C cl fp => (sg_nm 5 hN)) (fun s H C cl fp => (sts_one (st_cmp (o_gt) (se_var 5) se_int))) (fun s H C cl fp => (se_op o_sub (se_var 5) se_int)))) hN)) (sb_one (ss_set 3 (se_dat (sl_lcw [("spot", 5)] rfl hN (si_it (se_var 1)) (by show blkC ["marks", "spots", "one", "gone", "later", "spot", "index_gone", "place", "mark"] (defScope s_law_moved) _ [("spot", 5)] = true; decide +kernel) (fun s H C cl fp => (sg_nm 5 hN)) (fun s H C cl fp => (sts_one (st_cmp (o_lt) (se_var 5) (se_blt rfl (o_len) T.z_len (sa_cons (se_var 0) sa_nil))))) (fun s H C cl fp => (se_var 5)))) hN)))
    (sb_cons (ss_lcD (ps_lcw 4 [("spot", 5)] rfl hN (si_it (se_var 1)) (by show blkC ["marks", "spots", "one", "gone", "later", "spot", "index_gone", "place", "mark"] (defScope s_law_moved) _ [("spot", 5)] = true; decide +kernel) (fun s H C cl fp => (sg_nm 5 hN)) (fun s H C cl fp => sts_nil) (fun s H C cl fp => (se_op o_sub (se_var 5) (se_blt rfl (o_len) T.z_len (sa_cons (se_dat (sl_lcw [("index_gone", 6)] rfl hN (si_it (se_var 3)) (by rfl) (fun s H C cl fp => (sg_nm 6 hN)) (fun s H C cl fp => (sts_one (st_cmp (o_lt) (se_var 6) (se_var 5)))) (fun s H C cl fp => (se_var 6)))) sa_nil))))))
    (sb_one (ss_ret (se_tup (sa_cons (se_dat (sl_lcw [("place", 7), ("mark", 8)] rfl hN (si_enum T.z_enumerate (sa_cons (se_var 0) sa_nil)) (by show blkC ["marks", "spots", "one", "gone", "later", "spot", "index_gone", "place", "mark"] (defScope s_law_moved) _ [("place", 7), ("mark", 8)] = true; decide +kernel) (fun s H C cl fp => (sg_tp (pgs_cons (sg_nm 7 hN) (pgs_cons (sg_nm 8 hN) pgs_nil)) rfl)) (fun s H C cl fp => (sts_one (st_cmp (o_notin) (se_var 7) (se_var 3)))) (fun s H C cl fp => (se_var 8)))) (sa_cons (se_var 4) sa_nil)))))))))
theorem ok_law_pressed (T : Tx K mg a g) (G_law_moved : FnG P w K mg base 1 (a 16) (g 16) ["marks", "spots", "one"] F_law_moved_v1) : FnG P w K mg base 2 (a 17) (g 17) ["marks", "spots", "row"] F_law_pressed_v2 := by
  refine fnG_of T.f_law_pressed sc_law_pressed fun cdv A outer s H E hr hgd => ?_
  have hN := sc_law_pressed.nd
  exact (sb_cons (ss_for (passes_of rfl) rfl (si_it (se_var 2)) (sg_nm 3 hN) (sb_cons (ss_if (st_cmp (o_in) (se_var 3) (se_str (by decide +kernel))) (sb_one (ss_unp (sc_call (G_law_moved.mono (by decide : 1 ≤ 1)) hr hgd (takes_of rfl rfl rfl rfl) T.m_law_moved T.k_law_moved T.b_law_moved (sa_cons (se_var 0) (sa_cons (se_var 1) (sa_cons (se_var 3) sa_nil)))) (sg_tp (pgs_cons (sg_nm 0 hN) (pgs_cons (sg_nm 4 hN) pgs_nil)) rfl))) (sb_cons (ss_par2 5 4 (sa_cons (se_loc (sl_lst sa_nil)) (sa_cons (se_loc (sl_lst sa_nil)) sa_nil)) rfl hN)
    (sb_cons (ss_for (passes_of rfl) rfl (si_rng1 T.z_range (sa_cons (se_op o_add (se_blt rfl (o_len) T.z_len (sa_cons (se_var 0) sa_nil)) se_int) sa_nil)) (sg_nm 6 hN) (sb_cons (ss_if (st_cmp (o_in) (se_var 6) (se_var 1)) (sb_cons (ss_expr (se_u PySem.F.slot_list_append PySem.F.type_list_append o_append (se_var 5) (sa_cons (se_var 3) sa_nil)))
    (sb_one (ss_expr (se_u PySem.F.slot_list_append PySem.F.type_list_append o_append (se_var 4) (sa_cons (se_blt rfl (o_len) T.z_len (sa_cons (se_var 5) sa_nil)) sa_nil))))) sb_nil)
    (sb_one (ss_expr (se_u PySem.F.slot_list_extend PySem.F.type_list_extend o_extend (se_var 5) (sa_cons (se_sl o_sl (se_var 0) (so_some (se_var 6)) (so_some (se_op o_add (se_var 6) se_int))) sa_nil))))))
    (sb_one (ss_set 0 (se_frz (se_var 5)) hN)))))
    (sb_one (ss_set 1 (se_dat (sl_sortS T.z_sorted T.z_set (se_var 4))) hN))))
    (sb_one (ss_ret (se_tup (sa_cons (se_var 0) (sa_cons (se_var 1) sa_nil))))))
theorem ok_law_piece (T : Tx K mg a g) : FnG P w K mg base 1 (a 18) (g 18) ["part", "origin"] F_law_piece := by
  refine fnG_of T.f_law_piece sc_law_piece fun cdv A outer s H E hr hgd => ?_
  have hN := sc_law_piece.nd
  exact (sb_cons (ss_lcD (ps_lcw 2 [("mark", 4)] rfl hN (si_it (se_var 0)) (by show blkC ["part", "origin", "kept", "letters", "mark", "one", "two"] (defScope s_law_piece) _ [("mark", 4)] = true; decide +kernel) (fun s H C cl fp => (sg_nm 4 hN)) (fun s H C cl fp => (sts_one (st_tru (se_isi T.z_isinstance T.z_int rfl (by decide) (se_var 4))))) (fun s H C cl fp => (se_var 4))))
    (sb_cons (ss_lcD (ps_lcw 3 [("mark", 4)] rfl hN (si_it (se_var 0)) (by show blkC ["part", "origin", "kept", "letters", "mark", "one", "two"] (defScope s_law_piece) _ [("mark", 4)] = true; decide +kernel) (fun s H C cl fp => (sg_nm 4 hN)) (fun s H C cl fp => (sts_one (st_tru (se_isi T.z_isinstance T.z_str rfl (by decide) (se_var 4))))) (fun s H C cl fp => (se_var 4))))
    (sb_cons (ss_if (st_w (sw_or (st_cmp (o_ne hr.units) (se_var 0) (se_op o_add (se_var 2) (se_var 3))) (sw_or1 (st_cmp (o_ne hr.units) (se_dat (sl_lcw [("one", 5), ("two", 6)] rfl hN (si_zip T.z_zip (sa_cons (se_var 2) (sa_cons (se_sl o_sl (se_var 2) (so_some se_int) so_no) sa_nil))) (by show blkC ["part", "origin", "kept", "letters", "mark", "one", "two"] (defScope s_law_piece) _ [("one", 5), ("two", 6)] = true; decide +kernel) (fun s H C cl fp => (sg_tp (pgs_cons (sg_nm 5 hN) (pgs_cons (sg_nm 6 hN) pgs_nil)) rfl)) (fun s H C cl fp => (sts_one (st_cmp (o_ne hr.units) (se_var 6) (se_op o_add (se_var 5) se_int)))) (fun s H C cl fp => se_int))) (se_dat (sl_lst sa_nil)))))) (sb_one (ss_ret se_non)) sb_nil)
    (sb_one (ss_ret (se_tup (sa_cons (se_if (st_cmp (o_ne hr.units) (se_var 2) (se_dat (sl_lst sa_nil))) (se_op o_sub (se_ix o_ix (se_var 2) se_int) (se_var 1)) se_int) (sa_cons (se_blt rfl (o_len) T.z_len (sa_cons (se_var 2) sa_nil)) (sa_cons (se_m PySem.F.plainAttrs_str PySem.F.slot_str_join PySem.F.type_str_join o_join (se_str (by decide +kernel)) (sa_cons (se_var 3) sa_nil)) sa_nil)))))))))
theorem ok_law_due (T : Tx K mg a g) (G_law_pressed : FnG P w K mg base 2 (a 17) (g 17) ["marks", "spots", "row"] F_law_pressed_v2) (G_law_form : FnG P w K mg base 1 (a 15) (g 15) ["row"] F_law_form) (G_law_piece : FnG P w K mg base 1 (a 18) (g 18) ["part", "origin"] F_law_piece) : FnG P w K mg base 3 (a 19) (g 19) ["place", "row"] F_law_due := by
  refine fnG_of T.f_law_due sc_law_due fun cdv A outer s H E hr hgd => ?_
  have hN := sc_law_due.nd
  exact (sb_cons (ss_unp (se_var 0) (sg_tp (pgs_cons (sg_nm 2 hN) (pgs_cons (sg_nm 3 hN) (pgs_cons (sg_nm 4 hN) pgs_nil))) rfl))
    (sb_cons (ss_par2 5 6 (sa_cons (se_loc (sl_lst (sa_cons (se_var 2) sa_nil))) (sa_cons (se_loc (sl_lst (sa_cons se_int (sa_cons (se_var 2) sa_nil)))) sa_nil)) rfl hN)
    (sb_cons (ss_for (passes_of rfl) rfl (si_it (se_var 3)) (sg_nm 7 hN) (sb_cons (ss_expr (se_u PySem.F.slot_list_append PySem.F.type_list_append o_append (se_var 5) (sa_cons (se_op o_add (se_ix o_ix (se_var 5) (se_un o_neg se_int)) (se_var 7)) sa_nil)))
    (sb_one (ss_expr (se_u PySem.F.slot_list_append PySem.F.type_list_append o_append (se_var 6) (sa_cons (se_ix o_ix (se_var 5) (se_un o_neg se_int)) sa_nil))))))
    (sb_cons (ss_unp (sc_call (G_law_pressed.mono (by decide : 2 ≤ 2)) hr hgd (takes_of rfl rfl rfl rfl) T.m_law_pressed T.k_law_pressed T.b_law_pressed (sa_cons (se_dat (sl_rg rfl T.z_list (sr_1 T.z_range (se_op o_add (se_ix o_ix (se_var 5) (se_un o_neg se_int)) (se_var 4))))) (sa_cons (se_dat (sl_bty boot_list (o_listA rfl) T.z_list (sa_cons (se_var 5) sa_nil))) (sa_cons (se_var 1) sa_nil)))) (sg_tp (pgs_cons (sg_nm 8 hN) (pgs_cons (sg_nm 9 hN) pgs_nil)) rfl))
    (sb_cons (ss_par3 10 11 12 (sa_cons (se_op o_add (se_var 9) (se_dat (sl_lst (sa_cons (se_blt rfl (o_len) T.z_len (sa_cons (se_var 8) sa_nil)) sa_nil)))) (sa_cons (se_loc (sl_lst sa_nil)) (sa_cons se_int sa_nil))) rfl hN)
    (sb_cons (ss_set 13 (se_ix o_ix (sc_call (G_law_form.mono (by decide : 1 ≤ 2)) hr hgd (takes_of rfl rfl rfl rfl) T.m_law_form T.k_law_form T.b_law_form (sa_cons (se_var 1) sa_nil)) se_int) hN)
    (sb_cons (ss_set 14 (se_dat (sl_op o_addL (se_dat (sl_op o_addL (se_dat (sl_lst (sa_cons se_int sa_nil))) (se_dat (sl_lcw [("spot", 18), ("gap", 7)] rfl hN (si_zipN T.z_zip (sa_cons (se_var 5) (sa_cons (se_var 3) sa_nil))) (by show blkC ["place", "row", "before", "gaps", "behind", "spots", "firsts", "gap", "marks", "later", "ends", "found", "low", "depth", "origins", "high", "origin", "sizes", "spot"] (defScope s_law_due) _ [("spot", 18), ("gap", 7)] = true; decide +kernel) (fun s H C cl fp => (sg_tp (pgs_cons (sg_nm 18 hN) (pgs_cons (sg_nm 7 hN) pgs_nil)) rfl)) (fun s H C cl fp => (sts_one (st_cmp (o_gt) (se_var 7) (se_var 13)))) (fun s H C cl fp => (se_var 18)))))) (se_dat (sl_lst (sa_cons (se_ix o_ix (se_var 5) (se_un o_neg se_int)) sa_nil))))) hN)
    (sb_cons (ss_for (passes_of rfl) rfl (si_zip T.z_zip (sa_cons (se_var 10) (sa_cons (se_var 14) sa_nil))) (sg_tp (pgs_cons (sg_nm 15 hN) (pgs_cons (sg_nm 16 hN) pgs_nil)) rfl) (sb_cons (ss_expr (se_u PySem.F.slot_list_append PySem.F.type_list_append o_append (se_var 11) (sa_cons (sc_call (G_law_piece.mono (by decide : 1 ≤ 2)) hr hgd (takes_of rfl rfl rfl rfl) T.m_law_piece T.k_law_piece T.b_law_piece (sa_cons (se_sl o_sl (se_var 8) (so_some (se_var 12)) (so_some (se_var 15))) (sa_cons (se_var 16) sa_nil))) sa_nil)))
    (sb_one (ss_set 12 (se_var 15) hN))))
    (sb_cons (ss_lcD (ps_lcw 17 [("low", 12), ("high", 15)] rfl hN (si_zip T.z_zip (sa_cons (se_dat (sl_op o_addL (se_dat (sl_lst (sa_cons se_int sa_nil))) (se_var 9))) (sa_cons (se_var 10) sa_nil))) (by show blkC ["place", "row", "before", "gaps", "behind", "spots", "firsts", "gap", "marks", "later", "ends", "found", "low", "depth", "origins", "high", "origin", "sizes", "spot"] (defScope s_law_due) _ [("low", 12), ("high", 15)] = true; decide +kernel) (fun s H C cl fp => (sg_tp (pgs_cons (sg_nm 12 hN) (pgs_cons (sg_nm 15 hN) pgs_nil)) rfl)) (fun s H C cl fp => sts_nil) (fun s H C cl fp => (se_op o_sub (se_var 15) (se_var 12)))))
    (sb_one (ss_ret (se_tup (sa_cons (se_var 11) (sa_cons (se_tup (sa_cons (se_ix o_ix (se_var 17) se_int) (sa_cons (se_bty boot_tuple o_tuple T.z_tuple (sa_cons (se_sl o_sl (se_var 17) (so_some se_int) (so_some (se_un o_neg se_int))) sa_nil)) (sa_cons (se_ix o_ix (se_var 17) (se_un o_neg se_int)) sa_nil)))) sa_nil))))))))))))))
theorem ok_layout_by_form (T : Tx K mg a g) (G_check_both : FnG P w K mg base 4 (a 7) (g 7) ["layout", "form"] F_check_both) (G_pieces_from : FnG P w K mg base 2 (a 9) (g 9) ["layout", "form"] F_pieces_from) : FnG P w K mg base 5 (a 20) (g 20) ["layout", "form"] F_layout_by_form := by
  refine fnG_of T.f_layout_by_form sc_layout_by_form fun cdv A outer s H E hr hgd => ?_
  have hN := sc_layout_by_form.nd
  exact (sb_cons (ss_expr (sc_call (G_check_both.mono (by decide : 4 ≤ 4)) hr hgd (takes_of rfl rfl rfl rfl) T.m_check_both T.k_check_both T.b_check_both (sa_cons (se_var 0) (sa_cons (se_var 1) sa_nil))))
    (sb_cons (ss_lcD (ps_lcw 2 [("start", 3), ("length", 4), ("typed", 5)] rfl hN (si_it (se_frz (sc_call (G_pieces_from.mono (by decide : 2 ≤ 4)) hr hgd (takes_of rfl rfl rfl rfl) T.m_pieces_from T.k_pieces_from T.b_pieces_from (sa_cons (se_var 0) (sa_cons (se_var 1) sa_nil))))) (by show blkC ["layout", "form", "sizes", "start", "length", "typed"] (defScope s_layout_by_form) _ [("start", 3), ("length", 4), ("typed", 5)] = true; decide +kernel) (fun s H C cl fp => (sg_tp (pgs_cons (sg_nm 3 hN) (pgs_cons (sg_nm 4 hN) (pgs_cons (sg_nm 5 hN) pgs_nil))) rfl)) (fun s H C cl fp => sts_nil) (fun s H C cl fp => (se_op o_add (se_var 4) (se_blt rfl (o_len) T.z_len (sa_cons (se_var 5) sa_nil))))))
    (sb_one (ss_ret (se_tup (sa_cons (se_ix o_ix (se_var 2) se_int) (sa_cons (se_bty boot_tuple o_tuple T.z_tuple (sa_cons (se_sl o_sl (se_var 2) (so_some se_int) (so_some (se_un o_neg se_int))) sa_nil)) (sa_cons (se_ix o_ix (se_var 2) (se_un o_neg se_int)) sa_nil))))))))
theorem ok_law_right (T : Tx K mg a g) (G_law_layout : FnG P w K mg base 2 (a 13) (g 13) ["bag", "top", "most"] F_law_layout_v1) (G_law_still : FnG P w K mg base 2 (a 14) (g 14) ["bag", "top"] F_law_still) (G_law_form : FnG P w K mg base 1 (a 15) (g 15) ["row"] F_law_form) (G_law_due : FnG P w K mg base 3 (a 19) (g 19) ["place", "row"] F_law_due) (G_pieces_after : FnG P w K mg base 5 (a 10) (g 10) ["layout", "form"] F_pieces_after) (G_law_same : FnG P w K mg base 9 (a 0) (g 0) ["found", "due"] (F_law_same_v1 8)) (G_layout_by_form : FnG P w K mg base 5 (a 20) (g 20) ["layout", "form"] F_layout_by_form) : FnG P w K mg base 10 (a 21) (g 21) ["bag"] F_law_right_k23 := by
  refine fnG_of T.f_law_right sc_law_right fun cdv A outer s H E hr hgd => ?_
  have hN := sc_law_right.nd
  exact (sb_cons (ss_par2 1 2 (sa_cons (sc_call (G_law_layout.mono (by decide : 2 ≤ 9)) hr hgd (takes_of rfl rfl rfl rfl) T.m_law_layout T.k_law_layout T.b_law_layout (sa_cons (se_var 0) (sa_cons se_int (sa_cons se_int sa_nil)))) (sa_cons (sc_call (G_law_still.mono (by decide : 2 ≤ 9)) hr hgd (takes_of rfl rfl rfl rfl) T.m_law_still T.k_law_still T.b_law_still (sa_cons (se_var 0) (sa_cons se_int sa_nil))) sa_nil)) rfl hN)
    (sb_cons (ss_parN (is := [3, 4]) (sa_cons (sc_call (G_law_form.mono (by decide : 1 ≤ 9)) hr hgd (takes_of rfl rfl rfl rfl) T.m_law_form T.k_law_form T.b_law_form (sa_cons (se_var 2) sa_nil)) (sa_cons (sc_call (G_law_due.mono (by decide : 3 ≤ 9)) hr hgd (takes_of rfl rfl rfl rfl) T.m_law_due T.k_law_due T.b_law_due (sa_cons (se_var 1) (sa_cons (se_var 2) sa_nil))) sa_nil)) (pg_tup rfl (pgs_cons (sg_nm 3 hN) (pgs_cons (sg_nm 4 hN) pgs_nil))))
    (sb_cons (ss_if (st_cmp (o_ne hr.units) (se_blt rfl (o_len) T.z_len (sa_cons (se_ix o_ix (se_var 4) se_int) sa_nil)) (se_op o_add (se_blt rfl (o_len) T.z_len (sa_cons (se_dat (sl_lcw [("gap", 7)] rfl hN (si_it (se_ix o_ix (se_var 1) se_int)) (by show blkC ["bag", "place", "row", "form_here", "due", "told", "again", "gap"] (defScope s_law_right) _ [("gap", 7)] = true; decide +kernel) (fun s H C cl fp => (sg_nm 7 hN)) (fun s H C cl fp => (sts_one (st_cmp (o_gt) (se_var 7) (se_ix o_ix (se_var 3) se_int)))) (fun s H C cl fp => (se_var 7)))) sa_nil)) se_int)) (sb_one (ss_ret se_bl)) sb_nil)
    (sb_cons (ss_set 5 (sc_call (G_pieces_after.mono (by decide : 5 ≤ 9)) hr hgd (takes_of rfl rfl rfl rfl) T.m_pieces_after T.k_pieces_after T.b_pieces_after (sa_cons (se_var 1) (sa_cons (se_var 3) sa_nil))) hN)
    (sb_cons (ss_if (st_w (sw_or (st_not (st_tru (sc_call (G_law_same.mono (by decide : 9 ≤ 9)) hr hgd (takes_of rfl rfl rfl rfl) T.m_law_same T.k_law_same T.b_law_same (sa_cons (se_var 5) (sa_cons (se_ix o_ix (se_var 4) se_int) sa_nil))))) (sw_or1 (st_not (st_tru (sc_call (G_law_same.mono (by decide : 9 ≤ 9)) hr hgd (takes_of rfl rfl rfl rfl) T.m_law_same T.k_law_same T.b_law_same (sa_cons (sc_call (G_layout_by_form.mono (by decide : 5 ≤ 9)) hr hgd (takes_of rfl rfl rfl rfl) T.m_layout_by_form T.k_layout_by_form T.b_layout_by_form (sa_cons (se_var 1) (sa_cons (se_var 3) sa_nil))) (sa_cons (se_ix o_ix (se_var 4) se_int) sa_nil)))))))) (sb_one (ss_ret se_bl)) sb_nil)
    (sb_cons (ss_expr (se_u PySem.F.slot_list_append PySem.F.type_list_append o_append (se_var 5) (sa_cons (se_tup (sa_cons se_int (sa_cons se_int (sa_cons (se_str (by decide +kernel)) sa_nil)))) sa_nil)))
    (sb_cons (ss_set 6 (se_dat (sl_lst (sa_cons (se_frz (sc_callK0 (G_pieces_after.mono (by decide : 5 ≤ 9)) hr hgd (takes_of rfl rfl rfl rfl) T.m_pieces_after T.k_pieces_after T.kb_pieces_after_0_form_layout (sk_cons (se_var 3) (sk_cons (se_var 1) sk_nil)))) (sa_cons (sc_callK0 (G_layout_by_form.mono (by decide : 5 ≤ 9)) hr hgd (takes_of rfl rfl rfl rfl) T.m_layout_by_form T.k_layout_by_form T.kb_layout_by_form_0_form_layout (sk_cons (se_var 3) (sk_cons (se_var 1) sk_nil))) sa_nil)))) hN)
    (sb_one (ss_ret (sc_call (G_law_same.mono (by decide : 9 ≤ 9)) hr hgd (takes_of rfl rfl rfl rfl) T.m_law_same T.k_law_same T.b_law_same (sa_cons (se_var 6) (sa_cons (se_dat (sl_lst (sa_cons (se_ix o_ix (se_var 4) se_int) (sa_cons (se_ix o_ix (se_var 4) se_int) sa_nil)))) sa_nil))))))))))))
theorem ok_law (T : Tx K mg a g) (G_law_bag : FnG P w K mg base 1 (a 1) (g 1) ["cell", "k"] F_law_bag) (G_law_cell_at : FnG P w K mg base 1 (a 11) (g 11) ["script", "k"] F_law_cell_at) (G_law_right : FnG P w K mg base 10 (a 21) (g 21) ["bag"] F_law_right_k23) (G_pieces_after : FnG P w K mg base 5 (a 10) (g 10) ["layout", "form"] F_pieces_after) (G_law_same : FnG P w K mg base 9 (a 0) (g 0) ["found", "due"] (F_law_same_v1 8)) : FnG P w K mg base 11 (a 22) (g 22) ["script"] F_law_k23 := by
  refine fnG_of T.f_law sc_law fun cdv A outer s H E hr hgd => ?_
  have hN := sc_law.nd
  exact (sb_cons (ss_for (passes_of rfl) rfl (si_rng1 T.z_range (sa_cons (se_blt rfl (o_max rfl) T.z_max (sa_cons se_int (sa_cons (se_blt rfl (o_min rfl) T.z_min (sa_cons se_int (sa_cons (se_scrLen T.z_len (se_var 0)) sa_nil))) sa_nil))) sa_nil)) (sg_nm 1 hN) (sb_cons (ss_set 2 (sc_call (G_law_bag.mono (by decide : 1 ≤ 10)) hr hgd (takes_of rfl rfl rfl rfl) T.m_law_bag T.k_law_bag T.b_law_bag (sa_cons (sc_call (G_law_cell_at.mono (by decide : 1 ≤ 10)) hr hgd (takes_of rfl rfl rfl rfl) T.m_law_cell_at T.k_law_cell_at T.b_law_cell_at (sa_cons (se_var 0) (sa_cons (se_var 1) sa_nil))) (sa_cons (se_var 1) sa_nil))) hN)
    (sb_one (ss_for (passes_of rfl) rfl (si_rng1 T.z_range (sa_cons se_int sa_nil)) (sg_nm 3 hN) (sb_one (ss_if (st_not (st_tru (sc_call (G_law_right.mono (by decide : 10 ≤ 10)) hr hgd (takes_of rfl rfl rfl rfl) T.m_law_right T.k_law_right T.b_law_right (sa_cons (se_var 2) sa_nil)))) (sb_one (ss_ret se_bl)) sb_nil))))))
    (sb_cons (ss_set 4 (se_dat (sl_lst (sa_cons (se_frz (sc_call (G_pieces_after.mono (by decide : 5 ≤ 10)) hr hgd (takes_of rfl rfl rfl rfl) T.m_pieces_after T.k_pieces_after T.b_pieces_after (sa_cons (se_tup (sa_cons se_int (sa_cons (se_tup (sa_cons se_int (sa_cons se_int sa_nil))) (sa_cons se_int sa_nil)))) (sa_cons (se_tup (sa_cons se_int (sa_cons (se_str (by decide +kernel)) (sa_cons se_int (sa_cons se_int sa_nil))))) sa_nil)))) (sa_cons (se_frz (sc_call (G_pieces_after.mono (by decide : 5 ≤ 10)) hr hgd (takes_of rfl rfl rfl rfl) T.m_pieces_after T.k_pieces_after T.b_pieces_after (sa_cons (se_tup (sa_cons se_int (sa_cons (se_tup (sa_cons se_int sa_nil)) (sa_cons se_int sa_nil)))) (sa_cons (se_tup (sa_cons se_int (sa_cons (se_str (by decide +kernel)) (sa_cons se_int (sa_cons se_int sa_nil))))) sa_nil)))) sa_nil)))) hN)
    (sb_one (ss_ret (sc_call (G_law_same.mono (by decide : 9 ≤ 10)) hr hgd (takes_of rfl rfl rfl rfl) T.m_law_same T.k_law_same T.b_law_same (sa_cons (se_var 4) (sa_cons (se_dat (sl_lst (sa_cons (se_dat (sl_lst (sa_cons (se_tup (sa_cons se_int (sa_cons se_int (sa_cons (se_str (by decide +kernel)) sa_nil)))) (sa_cons (se_tup (sa_cons se_int (sa_cons se_int (sa_cons (se_str (by decide +kernel)) sa_nil)))) (sa_cons (se_tup (sa_cons se_int (sa_cons se_int (sa_cons (se_str (by decide +kernel)) sa_nil)))) sa_nil))))) (sa_cons (se_dat (sl_lst (sa_cons (se_tup (sa_cons se_int (sa_cons se_int (sa_cons (se_str (by decide +kernel)) sa_nil)))) (sa_cons (se_tup (sa_cons se_int (sa_cons se_int (sa_cons (se_str (by decide +kernel)) sa_nil)))) (sa_cons (se_tup (sa_cons se_int (sa_cons se_int (sa_cons (se_str (by decide +kernel)) sa_nil)))) sa_nil))))) sa_nil)))) sa_nil)))))))
end

theorem all_mk {l : PySem.W.OpenLaw} {w : World} {K : PySem.W.Frag} {h : Heap} {mg : Str → Option Value} {fa : Addr} (X : K.In h) (G : h.Ns mainGlobals mg) (hfa : mg "law" = some (.ref fa))
    {oc0 kV0 dc0 pm0 cd0 ct0 : Value} {od0 an0 : Option Addr} {sl0 : Array (Option Value)} {f0 : Addr}
    {oc1 kV1 dc1 pm1 cd1 ct1 : Value} {od1 an1 : Option Addr} {sl1 : Array (Option Value)} {f1 : Addr}
    {oc2 kV2 dc2 pm2 cd2 ct2 : Value} {od2 an2 : Option Addr} {sl2 : Array (Option Value)} {f2 : Addr}
    {oc3 kV3 dc3 pm3 cd3 ct3 : Value} {od3 an3 : Option Addr} {sl3 : Array (Option Value)} {f3 : Addr}
    {oc4 kV4 dc4 pm4 cd4 ct4 : Value} {od4 an4 : Option Addr} {sl4 : Array (Option Value)} {f4 : Addr}
    {oc5 kV5 dc5 pm5 cd5 ct5 : Value} {od5 an5 : Option Addr} {sl5 : Array (Option Value)} {f5 : Addr}
    {oc6 kV6 dc6 pm6 cd6 ct6 : Value} {od6 an6 : Option Addr} {sl6 : Array (Option Value)} {f6 : Addr}
    {oc7 kV7 dc7 pm7 cd7 ct7 : Value} {od7 an7 : Option Addr} {sl7 : Array (Option Value)} {f7 : Addr}
    {oc8 kV8 dc8 pm8 cd8 ct8 : Value} {od8 an8 : Option Addr} {sl8 : Array (Option Value)} {f8 : Addr}
    {oc9 kV9 dc9 pm9 cd9 ct9 : Value} {od9 an9 : Option Addr} {sl9 : Array (Option Value)} {f9 : Addr}
    {oc10 kV10 dc10 pm10 cd10 ct10 : Value} {od10 an10 : Option Addr} {sl10 : Array (Option Value)} {f10 : Addr}
    {oc11 kV11 dc11 pm11 cd11 ct11 : Value} {od11 an11 : Option Addr} {sl11 : Array (Option Value)} {f11 : Addr}
    {oc12 kV12 dc12 pm12 cd12 ct12 : Value} {od12 an12 : Option Addr} {sl12 : Array (Option Value)} {f12 : Addr}
    {oc13 kV13 dc13 pm13 cd13 ct13 : Value} {od13 an13 : Option Addr} {sl13 : Array (Option Value)} {f13 : Addr}
    {oc14 kV14 dc14 pm14 cd14 ct14 : Value} {od14 an14 : Option Addr} {sl14 : Array (Option Value)} {f14 : Addr}
    {oc15 kV15 dc15 pm15 cd15 ct15 : Value} {od15 an15 : Option Addr} {sl15 : Array (Option Value)} {f15 : Addr}
    {oc16 kV16 dc16 pm16 cd16 ct16 : Value} {od16 an16 : Option Addr} {sl16 : Array (Option Value)} {f16 : Addr}
    {oc17 kV17 dc17 pm17 cd17 ct17 : Value} {od17 an17 : Option Addr} {sl17 : Array (Option Value)} {f17 : Addr}
    {oc18 kV18 dc18 pm18 cd18 ct18 : Value} {od18 an18 : Option Addr} {sl18 : Array (Option Value)} {f18 : Addr}
    {oc19 kV19 dc19 pm19 cd19 ct19 : Value} {od19 an19 : Option Addr} {sl19 : Array (Option Value)} {f19 : Addr}
    {oc20 kV20 dc20 pm20 cd20 ct20 : Value} {od20 an20 : Option Addr} {sl20 : Array (Option Value)} {f20 : Addr}
    {oc21 kV21 dc21 pm21 cd21 ct21 : Value} {od21 an21 : Option Addr} {sl21 : Array (Option Value)} {f21 : Addr}
    {oc22 kV22 dc22 pm22 cd22 ct22 : Value} {od22 an22 : Option Addr} {sl22 : Array (Option Value)} {f22 : Addr}
    {C0 : Addr}
    {C1 : Addr}
    {t2 : Tok}
    (a0 : PySem.W.nsIn K mainGlobals "_law_same" = some (some (.ref f0)))
    (l0 : K.lookup f0 = some ⟨oc0, od0, .func (PySem.W.fnOf "_law_same" "_law_same" (defArgs s_law_same) (defBody s_law_same) (defScope s_law_same) .none kV0 dc0 pm0 an0 cd0 ct0), sl0⟩)
    (c0 : PySem.W.codeIn K cd0 "_law_same" = true)
    (k0 : PySem.W.keepIn K (.ref f0) = true)
    (a1 : PySem.W.nsIn K mainGlobals "_law_bag" = some (some (.ref f1)))
    (l1 : K.lookup f1 = some ⟨oc1, od1, .func (PySem.W.fnOf "_law_bag" "_law_bag" (defArgs s_law_bag) (defBody s_law_bag) (defScope s_law_bag) .none kV1 dc1 pm1 an1 cd1 ct1), sl1⟩)
    (c1 : PySem.W.codeIn K cd1 "_law_bag" = true)
    (k1 : PySem.W.keepIn K (.ref f1) = true)
    (a2 : PySem.W.nsIn K mainGlobals "is_integer" = some (some (.ref f2)))
    (l2 : K.lookup f2 = some ⟨oc2, od2, .func (PySem.W.fnOf "is_integer" "is_integer" (defArgs s_is_integer) (defBody s_is_integer) (defScope s_is_integer) .none kV2 dc2 pm2 an2 cd2 ct2), sl2⟩)
    (c2 : PySem.W.codeIn K cd2 "is_integer" = true)
    (k2 : PySem.W.keepIn K (.ref f2) = true)
    (a3 : PySem.W.nsIn K mainGlobals "is_layout" = some (some (.ref f3)))
    (l3 : K.lookup f3 = some ⟨oc3, od3, .func (PySem.W.fnOf "is_layout" "is_layout" (defArgs s_is_layout) (defBody s_is_layout) (defScope s_is_layout) .none kV3 dc3 pm3 an3 cd3 ct3), sl3⟩)
    (c3 : PySem.W.codeIn K cd3 "is_layout" = true)
    (k3 : PySem.W.keepIn K (.ref f3) = true)
    (a4 : PySem.W.nsIn K mainGlobals "check_layout" = some (some (.ref f4)))
    (l4 : K.lookup f4 = some ⟨oc4, od4, .func (PySem.W.fnOf "check_layout" "check_layout" (defArgs s_check_layout) (defBody s_check_layout) (defScope s_check_layout) .none kV4 dc4 pm4 an4 cd4 ct4), sl4⟩)
    (c4 : PySem.W.codeIn K cd4 "check_layout" = true)
    (k4 : PySem.W.keepIn K (.ref f4) = true)
    (a5 : PySem.W.nsIn K mainGlobals "is_form" = some (some (.ref f5)))
    (l5 : K.lookup f5 = some ⟨oc5, od5, .func (PySem.W.fnOf "is_form" "is_form" (defArgs s_is_form) (defBody s_is_form) (defScope s_is_form) .none kV5 dc5 pm5 an5 cd5 ct5), sl5⟩)
    (c5 : PySem.W.codeIn K cd5 "is_form" = true)
    (k5 : PySem.W.keepIn K (.ref f5) = true)
    (a6 : PySem.W.nsIn K mainGlobals "check_form" = some (some (.ref f6)))
    (l6 : K.lookup f6 = some ⟨oc6, od6, .func (PySem.W.fnOf "check_form" "check_form" (defArgs s_check_form) (defBody s_check_form) (defScope s_check_form) .none kV6 dc6 pm6 an6 cd6 ct6), sl6⟩)
    (c6 : PySem.W.codeIn K cd6 "check_form" = true)
    (k6 : PySem.W.keepIn K (.ref f6) = true)
    (a7 : PySem.W.nsIn K mainGlobals "check_both" = some (some (.ref f7)))
    (l7 : K.lookup f7 = some ⟨oc7, od7, .func (PySem.W.fnOf "check_both" "check_both" (defArgs s_check_both) (defBody s_check_both) (defScope s_check_both) .none kV7 dc7 pm7 an7 cd7 ct7), sl7⟩)
    (c7 : PySem.W.codeIn K cd7 "check_both" = true)
    (k7 : PySem.W.keepIn K (.ref f7) = true)
    (a8 : PySem.W.nsIn K mainGlobals "gap_piece" = some (some (.ref f8)))
    (l8 : K.lookup f8 = some ⟨oc8, od8, .func (PySem.W.fnOf "gap_piece" "gap_piece" (defArgs s_gap_piece) (defBody s_gap_piece) (defScope s_gap_piece) .none kV8 dc8 pm8 an8 cd8 ct8), sl8⟩)
    (c8 : PySem.W.codeIn K cd8 "gap_piece" = true)
    (k8 : PySem.W.keepIn K (.ref f8) = true)
    (a9 : PySem.W.nsIn K mainGlobals "pieces_from" = some (some (.ref f9)))
    (l9 : K.lookup f9 = some ⟨oc9, od9, .func (PySem.W.fnOf "pieces_from" "pieces_from" (defArgs s_pieces_from) (defBody s_pieces_from) (defScope s_pieces_from) .none kV9 dc9 pm9 an9 cd9 ct9), sl9⟩)
    (c9 : PySem.W.codeIn K cd9 "pieces_from" = true)
    (k9 : PySem.W.keepIn K (.ref f9) = true)
    (a10 : PySem.W.nsIn K mainGlobals "pieces_after" = some (some (.ref f10)))
    (l10 : K.lookup f10 = some ⟨oc10, od10, .func (PySem.W.fnOf "pieces_after" "pieces_after" (defArgs s_pieces_after) (defBody s_pieces_after) (defScope s_pieces_after) .none kV10 dc10 pm10 an10 cd10 ct10), sl10⟩)
    (c10 : PySem.W.codeIn K cd10 "pieces_after" = true)
    (k10 : PySem.W.keepIn K (.ref f10) = true)
    (a11 : PySem.W.nsIn K mainGlobals "_law_cell_at" = some (some (.ref f11)))
    (l11 : K.lookup f11 = some ⟨oc11, od11, .func (PySem.W.fnOf "_law_cell_at" "_law_cell_at" (defArgs s_law_cell_at) (defBody s_law_cell_at) (defScope s_law_cell_at) .none kV11 dc11 pm11 an11 cd11 ct11), sl11⟩)
    (c11 : PySem.W.codeIn K cd11 "_law_cell_at" = true)
    (k11 : PySem.W.keepIn K (.ref f11) = true)
    (a12 : PySem.W.nsIn K mainGlobals "_law_take" = some (some (.ref f12)))
    (l12 : K.lookup f12 = some ⟨oc12, od12, .func (PySem.W.fnOf "_law_take" "_law_take" (defArgs s_law_take) (defBody s_law_take) (defScope s_law_take) .none kV12 dc12 pm12 an12 cd12 ct12), sl12⟩)
    (c12 : PySem.W.codeIn K cd12 "_law_take" = true)
    (k12 : PySem.W.keepIn K (.ref f12) = true)
    (a13 : PySem.W.nsIn K mainGlobals "_law_layout" = some (some (.ref f13)))
    (l13 : K.lookup f13 = some ⟨oc13, od13, .func (PySem.W.fnOf "_law_layout" "_law_layout" (defArgs s_law_layout) (defBody s_law_layout) (defScope s_law_layout) .none kV13 dc13 pm13 an13 cd13 ct13), sl13⟩)
    (c13 : PySem.W.codeIn K cd13 "_law_layout" = true)
    (k13 : PySem.W.keepIn K (.ref f13) = true)
    (a14 : PySem.W.nsIn K mainGlobals "_law_still" = some (some (.ref f14)))
    (l14 : K.lookup f14 = some ⟨oc14, od14, .func (PySem.W.fnOf "_law_still" "_law_still" (defArgs s_law_still) (defBody s_law_still) (defScope s_law_still) .none kV14 dc14 pm14 an14 cd14 ct14), sl14⟩)
    (c14 : PySem.W.codeIn K cd14 "_law_still" = true)
    (k14 : PySem.W.keepIn K (.ref f14) = true)
    (a15 : PySem.W.nsIn K mainGlobals "_law_form" = some (some (.ref f15)))
    (l15 : K.lookup f15 = some ⟨oc15, od15, .func (PySem.W.fnOf "_law_form" "_law_form" (defArgs s_law_form) (defBody s_law_form) (defScope s_law_form) .none kV15 dc15 pm15 an15 cd15 ct15), sl15⟩)
    (c15 : PySem.W.codeIn K cd15 "_law_form" = true)
    (k15 : PySem.W.keepIn K (.ref f15) = true)
    (a16 : PySem.W.nsIn K mainGlobals "_law_moved" = some (some (.ref f16)))
    (l16 : K.lookup f16 = some ⟨oc16, od16, .func (PySem.W.fnOf "_law_moved" "_law_moved" (defArgs s_law_moved) (defBody s_law_moved) (defScope s_law_moved) .none kV16 dc16 pm16 an16 cd16 ct16), sl16⟩)
    (c16 : PySem.W.codeIn K cd16 "_law_moved" = true)
    (k16 : PySem.W.keepIn K (.ref f16) = true)
    (a17 : PySem.W.nsIn K mainGlobals "_law_pressed" = some (some (.ref f17)))
    (l17 : K.lookup f17 = some ⟨oc17, od17, .func (PySem.W.fnOf "_law_pressed" "_law_pressed" (defArgs s_law_pressed) (defBody s_law_pressed) (defScope s_law_pressed) .none kV17 dc17 pm17 an17 cd17 ct17), sl17⟩)
    (c17 : PySem.W.codeIn K cd17 "_law_pressed" = true)
    (k17 : PySem.W.keepIn K (.ref f17) = true)
    (a18 : PySem.W.nsIn K mainGlobals "_law_piece" = some (some (.ref f18)))
    (l18 : K.lookup f18 = some ⟨oc18, od18, .func (PySem.W.fnOf "_law_piece" "_law_piece" (defArgs s_law_piece) (defBody s_law_piece) (defScope s_law_piece) .none kV18 dc18 pm18 an18 cd18 ct18), sl18⟩)
    (c18 : PySem.W.codeIn K cd18 "_law_piece" = true)
    (k18 : PySem.W.keepIn K (.ref f18) = true)
    (a19 : PySem.W.nsIn K mainGlobals "_law_due" = some (some (.ref f19)))
    (l19 : K.lookup f19 = some ⟨oc19, od19, .func (PySem.W.fnOf "_law_due" "_law_due" (defArgs s_law_due) (defBody s_law_due) (defScope s_law_due) .none kV19 dc19 pm19 an19 cd19 ct19), sl19⟩)
    (c19 : PySem.W.codeIn K cd19 "_law_due" = true)
    (k19 : PySem.W.keepIn K (.ref f19) = true)
    (a20 : PySem.W.nsIn K mainGlobals "layout_by_form" = some (some (.ref f20)))
    (l20 : K.lookup f20 = some ⟨oc20, od20, .func (PySem.W.fnOf "layout_by_form" "layout_by_form" (defArgs s_layout_by_form) (defBody s_layout_by_form) (defScope s_layout_by_form) .none kV20 dc20 pm20 an20 cd20 ct20), sl20⟩)
    (c20 : PySem.W.codeIn K cd20 "layout_by_form" = true)
    (k20 : PySem.W.keepIn K (.ref f20) = true)
    (a21 : PySem.W.nsIn K mainGlobals "_law_right" = some (some (.ref f21)))
    (l21 : K.lookup f21 = some ⟨oc21, od21, .func (PySem.W.fnOf "_law_right" "_law_right" (defArgs s_law_right) (defBody s_law_right) (defScope s_law_right) .none kV21 dc21 pm21 an21 cd21 ct21), sl21⟩)
    (c21 : PySem.W.codeIn K cd21 "_law_right" = true)
    (k21 : PySem.W.keepIn K (.ref f21) = true)
    (a22 : PySem.W.nsIn K mainGlobals "law" = some (some (.ref f22)))
    (l22 : K.lookup f22 = some ⟨oc22, od22, .func (PySem.W.fnOf "law" "law" (defArgs s_law) (defBody s_law) (defScope s_law) .none kV22 dc22 pm22 an22 cd22 ct22), sl22⟩)
    (c22 : PySem.W.codeIn K cd22 "law" = true)
    (k22 : PySem.W.keepIn K (.ref f22) = true)
    (ca0 : PySem.W.nsIn K mainGlobals "InvalidForm" = some (some (.ref C0)))
    (cb0 : PySem.W.excIn K C0 [.type "ValueError", .type "Exception", .type "BaseException", .type "object"] "ValueError.__new__" = true)
    (cc0 : PySem.W.keepIn K (.ref C0) = true)
    (cd_0 : PySem.W.subIn K (.ref C0) (.type "BaseException") = some true)
    (ce0 : PySem.W.typeIn K (.ref C0) = some (.type "type"))
    (ca1 : PySem.W.nsIn K mainGlobals "InvalidLayout" = some (some (.ref C1)))
    (cb1 : PySem.W.excIn K C1 [.type "ValueError", .type "Exception", .type "BaseException", .type "object"] "ValueError.__new__" = true)
    (cc1 : PySem.W.keepIn K (.ref C1) = true)
    (cd_1 : PySem.W.subIn K (.ref C1) (.type "BaseException") = some true)
    (ce1 : PySem.W.typeIn K (.ref C1) = some (.type "type"))
    (q2 : PySem.W.nsIn K mainGlobals "LETTERS" = some (some (.str cLow t2)))
    (z27 : PySem.W.nsIn K mainGlobals "all" = some none)
    (z28 : PySem.W.nsIn K mainGlobals "bool" = some none)
    (z29 : PySem.W.nsIn K mainGlobals "enumerate" = some none)
    (z30 : PySem.W.nsIn K mainGlobals "int" = some none)
    (z31 : PySem.W.nsIn K mainGlobals "isinstance" = some none)
    (z32 : PySem.W.nsIn K mainGlobals "len" = some none)
    (z33 : PySem.W.nsIn K mainGlobals "list" = some none)
    (z34 : PySem.W.nsIn K mainGlobals "max" = some none)
    (z35 : PySem.W.nsIn K mainGlobals "min" = some none)
    (z36 : PySem.W.nsIn K mainGlobals "range" = some none)
    (z37 : PySem.W.nsIn K mainGlobals "set" = some none)
    (z38 : PySem.W.nsIn K mainGlobals "sorted" = some none)
    (z39 : PySem.W.nsIn K mainGlobals "str" = some none)
    (z40 : PySem.W.nsIn K mainGlobals "tuple" = some none)
    (z41 : PySem.W.nsIn K mainGlobals "zip" = some none) :
    ∃ fd : FuncData, (∀ (s : Shared) (v : Value), BindsTo s fd ⟨[v], []⟩ [("script", v)]) ∧ ∀ base : Heap, K.In base → base.Ns mainGlobals mg → FnG l.prog w K mg base 11 fa fd ["script"] F_law_k23 := by
  have e := Value.ref.inj (Option.some.inj ((PySem.W.mg_of X G a22).symm.trans hfa))
  subst e
  let a : Nat → Addr := fun i => [f0, f1, f2, f3, f4, f5, f6, f7, f8, f9, f10, f11, f12, f13, f14, f15, f16, f17, f18, f19, f20, f21, f22].getD i 0
  let g : Nat → FuncData := fun i => [PySem.W.fnOf "_law_same" "_law_same" (defArgs s_law_same) (defBody s_law_same) (defScope s_law_same) .none kV0 dc0 pm0 an0 cd0 ct0, PySem.W.fnOf "_law_bag" "_law_bag" (defArgs s_law_bag) (defBody s_law_bag) (defScope s_law_bag) .none kV1 dc1 pm1 an1 cd1 ct1, PySem.W.fnOf "is_integer" "is_integer" (defArgs s_is_integer) (defBody s_is_integer) (defScope s_is_integer) .none kV2 dc2 pm2 an2 cd2 ct2, PySem.W.fnOf "is_layout" "is_layout" (defArgs s_is_layout) (defBody s_is_layout) (defScope s_is_layout) .none kV3 dc3 pm3 an3 cd3 ct3, PySem.W.fnOf "check_layout" "check_layout" (defArgs s_check_layout) (defBody s_check_layout) (defScope s_check_layout) .none kV4 dc4 pm4 an4 cd4 ct4, PySem.W.fnOf "is_form" "is_form" (defArgs s_is_form) (defBody s_is_form) (defScope s_is_form) .none kV5 dc5 pm5 an5 cd5 ct5, PySem.W.fnOf "check_form" "check_form" (defArgs s_check_form) (defBody s_check_form) (defScope s_check_form) .none kV6 dc6 pm6 an6 cd6 ct6, PySem.W.fnOf "check_both" "check_both" (defArgs s_check_both) (defBody s_check_both) (defScope s_check_both) .none kV7 dc7 pm7 an7 cd7 ct7, PySem.W.fnOf "gap_piece" "gap_piece" (defArgs s_gap_piece) (defBody s_gap_piece) (defScope s_gap_piece) .none kV8 dc8 pm8 an8 cd8 ct8, PySem.W.fnOf "pieces_from" "pieces_from" (defArgs s_pieces_from) (defBody s_pieces_from) (defScope s_pieces_from) .none kV9 dc9 pm9 an9 cd9 ct9, PySem.W.fnOf "pieces_after" "pieces_after" (defArgs s_pieces_after) (defBody s_pieces_after) (defScope s_pieces_after) .none kV10 dc10 pm10 an10 cd10 ct10, PySem.W.fnOf "_law_cell_at" "_law_cell_at" (defArgs s_law_cell_at) (defBody s_law_cell_at) (defScope s_law_cell_at) .none kV11 dc11 pm11 an11 cd11 ct11, PySem.W.fnOf "_law_take" "_law_take" (defArgs s_law_take) (defBody s_law_take) (defScope s_law_take) .none kV12 dc12 pm12 an12 cd12 ct12, PySem.W.fnOf "_law_layout" "_law_layout" (defArgs s_law_layout) (defBody s_law_layout) (defScope s_law_layout) .none kV13 dc13 pm13 an13 cd13 ct13, PySem.W.fnOf "_law_still" "_law_still" (defArgs s_law_still) (defBody s_law_still) (defScope s_law_still) .none kV14 dc14 pm14 an14 cd14 ct14, PySem.W.fnOf "_law_form" "_law_form" (defArgs s_law_form) (defBody s_law_form) (defScope s_law_form) .none kV15 dc15 pm15 an15 cd15 ct15, PySem.W.fnOf "_law_moved" "_law_moved" (defArgs s_law_moved) (defBody s_law_moved) (defScope s_law_moved) .none kV16 dc16 pm16 an16 cd16 ct16, PySem.W.fnOf "_law_pressed" "_law_pressed" (defArgs s_law_pressed) (defBody s_law_pressed) (defScope s_law_pressed) .none kV17 dc17 pm17 an17 cd17 ct17, PySem.W.fnOf "_law_piece" "_law_piece" (defArgs s_law_piece) (defBody s_law_piece) (defScope s_law_piece) .none kV18 dc18 pm18 an18 cd18 ct18, PySem.W.fnOf "_law_due" "_law_due" (defArgs s_law_due) (defBody s_law_due) (defScope s_law_due) .none kV19 dc19 pm19 an19 cd19 ct19, PySem.W.fnOf "layout_by_form" "layout_by_form" (defArgs s_layout_by_form) (defBody s_layout_by_form) (defScope s_layout_by_form) .none kV20 dc20 pm20 an20 cd20 ct20, PySem.W.fnOf "_law_right" "_law_right" (defArgs s_law_right) (defBody s_law_right) (defScope s_law_right) .none kV21 dc21 pm21 an21 cd21 ct21, PySem.W.fnOf "law" "law" (defArgs s_law) (defBody s_law) (defScope s_law) .none kV22 dc22 pm22 an22 cd22 ct22].getD i (PySem.W.fnOf "law" "law" (defArgs s_law) (defBody s_law) (defScope s_law) .none kV22 dc22 pm22 an22 cd22 ct22)
  have T : Tx K mg a g := {
    m_law_same := PySem.W.mg_of X G a0,
    f_law_same := fun_mk (st := s_law_same) l0 c0 k0,
    m_law_bag := PySem.W.mg_of X G a1,
    f_law_bag := fun_mk (st := s_law_bag) l1 c1 k1,
    m_is_integer := PySem.W.mg_of X G a2,
    f_is_integer := fun_mk (st := s_is_integer) l2 c2 k2,
    m_is_layout := PySem.W.mg_of X G a3,
    f_is_layout := fun_mk (st := s_is_layout) l3 c3 k3,
    m_check_layout := PySem.W.mg_of X G a4,
    f_check_layout := fun_mk (st := s_check_layout) l4 c4 k4,
    m_is_form := PySem.W.mg_of X G a5,
    f_is_form := fun_mk (st := s_is_form) l5 c5 k5,
    m_check_form := PySem.W.mg_of X G a6,
    f_check_form := fun_mk (st := s_check_form) l6 c6 k6,
    m_check_both := PySem.W.mg_of X G a7,
    f_check_both := fun_mk (st := s_check_both) l7 c7 k7,
    m_gap_piece := PySem.W.mg_of X G a8,
    f_gap_piece := fun_mk (st := s_gap_piece) l8 c8 k8,
    m_pieces_from := PySem.W.mg_of X G a9,
    f_pieces_from := fun_mk (st := s_pieces_from) l9 c9 k9,
    m_pieces_after := PySem.W.mg_of X G a10,
    f_pieces_after := fun_mk (st := s_pieces_after) l10 c10 k10,
    m_law_cell_at := PySem.W.mg_of X G a11,
    f_law_cell_at := fun_mk (st := s_law_cell_at) l11 c11 k11,
    m_law_take := PySem.W.mg_of X G a12,
    f_law_take := fun_mk (st := s_law_take) l12 c12 k12,
    m_law_layout := PySem.W.mg_of X G a13,
    f_law_layout := fun_mk (st := s_law_layout) l13 c13 k13,
    m_law_still := PySem.W.mg_of X G a14,
    f_law_still := fun_mk (st := s_law_still) l14 c14 k14,
    m_law_form := PySem.W.mg_of X G a15,
    f_law_form := fun_mk (st := s_law_form) l15 c15 k15,
    m_law_moved := PySem.W.mg_of X G a16,
    f_law_moved := fun_mk (st := s_law_moved) l16 c16 k16,
    m_law_pressed := PySem.W.mg_of X G a17,
    f_law_pressed := fun_mk (st := s_law_pressed) l17 c17 k17,
    m_law_piece := PySem.W.mg_of X G a18,
    f_law_piece := fun_mk (st := s_law_piece) l18 c18 k18,
    m_law_due := PySem.W.mg_of X G a19,
    f_law_due := fun_mk (st := s_law_due) l19 c19 k19,
    m_layout_by_form := PySem.W.mg_of X G a20,
    f_layout_by_form := fun_mk (st := s_layout_by_form) l20 c20 k20,
    m_law_right := PySem.W.mg_of X G a21,
    f_law_right := fun_mk (st := s_law_right) l21 c21 k21,
    m_law := PySem.W.mg_of X G a22,
    f_law := fun_mk (st := s_law) l22 c22 k22,
    cl_InvalidForm := ⟨_, _, PySem.W.mg_of X G ca0, cb0, cc0, cd_0, ce0, rfl⟩,
    cl_InvalidLayout := ⟨_, _, PySem.W.mg_of X G ca1, cb1, cc1, cd_1, ce1, rfl⟩,
    cx_LETTERS := ⟨_, PySem.W.mg_of X G q2⟩,
    z_all := PySem.W.mg_none_of X G z27,
    z_bool := PySem.W.mg_none_of X G z28,
    z_enumerate := PySem.W.mg_none_of X G z29,
    z_int := PySem.W.mg_none_of X G z30,
    z_isinstance := PySem.W.mg_none_of X G z31,
    z_len := PySem.W.mg_none_of X G z32,
    z_list := PySem.W.mg_none_of X G z33,
    z_max := PySem.W.mg_none_of X G z34,
    z_min := PySem.W.mg_none_of X G z35,
    z_range := PySem.W.mg_none_of X G z36,
    z_set := PySem.W.mg_none_of X G z37,
    z_sorted := PySem.W.mg_none_of X G z38,
    z_str := PySem.W.mg_none_of X G z39,
    z_tuple := PySem.W.mg_none_of X G z40,
    z_zip := PySem.W.mg_none_of X G z41 }
  refine ⟨g 22, fun s v => .of_eq rfl, fun base _ _ => ?_⟩
  have G_law_same := ok_law_same (P := l.prog) (w := w) (base := base) T 8
  have G_law_bag := ok_law_bag (P := l.prog) (w := w) (base := base) T
  have G_is_integer := ok_is_integer (P := l.prog) (w := w) (base := base) T
  have G_is_layout := ok_is_layout (P := l.prog) (w := w) (base := base) T G_is_integer
  have G_check_layout := ok_check_layout (P := l.prog) (w := w) (base := base) T G_is_layout
  have G_is_form := ok_is_form (P := l.prog) (w := w) (base := base) T G_is_integer
  have G_check_form := ok_check_form (P := l.prog) (w := w) (base := base) T G_is_form
  have G_check_both := ok_check_both (P := l.prog) (w := w) (base := base) T G_check_layout G_check_form
  have G_gap_piece := ok_gap_piece (P := l.prog) (w := w) (base := base) T
  have G_pieces_from := ok_pieces_from (P := l.prog) (w := w) (base := base) T G_gap_piece
  have G_pieces_after := ok_pieces_after (P := l.prog) (w := w) (base := base) T G_check_both G_pieces_from
  have G_law_cell_at := ok_law_cell_at (P := l.prog) (w := w) (base := base) T
  have G_law_take := ok_law_take (P := l.prog) (w := w) (base := base) T
  have G_law_layout := ok_law_layout (P := l.prog) (w := w) (base := base) T G_law_take
  have G_law_still := ok_law_still (P := l.prog) (w := w) (base := base) T G_law_take
  have G_law_form := ok_law_form (P := l.prog) (w := w) (base := base) T
  have G_law_moved := ok_law_moved (P := l.prog) (w := w) (base := base) T
  have G_law_pressed := ok_law_pressed (P := l.prog) (w := w) (base := base) T G_law_moved
  have G_law_piece := ok_law_piece (P := l.prog) (w := w) (base := base) T
  have G_law_due := ok_law_due (P := l.prog) (w := w) (base := base) T G_law_pressed G_law_form G_law_piece
  have G_layout_by_form := ok_layout_by_form (P := l.prog) (w := w) (base := base) T G_check_both G_pieces_from
  have G_law_right := ok_law_right (P := l.prog) (w := w) (base := base) T G_law_layout G_law_still G_law_form G_law_due G_pieces_after G_law_same G_layout_by_form
  have G_law := ok_law (P := l.prog) (w := w) (base := base) T G_law_bag G_law_cell_at G_law_right G_pieces_after G_law_same
  exact G_law

end Dl
open PySem PySem.W PyProof.Rows
set_option maxRecDepth 100000 in
set_option maxHeartbeats 0 in
theorem PySem.Challenge.cw_cursorkeys_k23_pieces_on_marks_holds : PySem.Challenge.rw_cursorkeys_k23_pieces_on_marks.Holds := by
  w_on; o_law; k_head; (case hw => w_witness2)
  k_fill
  refine Dl.law_end (l := PySem.Challenge.rw_cursorkeys_k23_pieces_on_marks) (n := 63) (k := 11) (sc := "script") (G := fun _ => Dl.F_law_k23) rfl (by decide) rfl ⟨rfl, by decide, by decide⟩ (fun w h Y => PySem.W.kIn_of Y) ?F (fun _ ns hl => Dl.plain_k23 ns hl)
  case F =>
    intro w mg fa h KX G hmg
    refine' Dl.all_mk KX G hmg ?a0 ?l0 ?c0 ?k0 ?a1 ?l1 ?c1 ?k1 ?a2 ?l2 ?c2 ?k2 ?a3 ?l3 ?c3 ?k3 ?a4 ?l4 ?c4 ?k4 ?a5 ?l5 ?c5 ?k5 ?a6 ?l6 ?c6 ?k6 ?a7 ?l7 ?c7 ?k7 ?a8 ?l8 ?c8 ?k8 ?a9 ?l9 ?c9 ?k9 ?a10 ?l10 ?c10 ?k10 ?a11 ?l11 ?c11 ?k11 ?a12 ?l12 ?c12 ?k12 ?a13 ?l13 ?c13 ?k13 ?a14 ?l14 ?c14 ?k14 ?a15 ?l15 ?c15 ?k15 ?a16 ?l16 ?c16 ?k16 ?a17 ?l17 ?c17 ?k17 ?a18 ?l18 ?c18 ?k18 ?a19 ?l19 ?c19 ?k19 ?a20 ?l20 ?c20 ?k20 ?a21 ?l21 ?c21 ?k21 ?a22 ?l22 ?c22 ?k22 ?ca0 ?cb0 ?cc0 ?cd_0 ?ce0 ?ca1 ?cb1 ?cc1 ?cd_1 ?ce1 ?q2 ?z27 ?z28 ?z29 ?z30 ?z31 ?z32 ?z33 ?z34 ?z35 ?z36 ?z37 ?z38 ?z39 ?z40 ?z41
    (case a0 => k_is)
    (case l0 => k_is)
    (case c0 => k_is)
    (case k0 => k_is)
    (case a1 => k_is)
    (case l1 => k_is)
    (case c1 => k_is)
    (case k1 => k_is)
    (case a2 => k_is)
    (case l2 => k_is)
    (case c2 => k_is)
    (case k2 => k_is)
    (case a3 => k_is)
    (case l3 => k_is)
    (case c3 => k_is)
    (case k3 => k_is)
    (case a4 => k_is)
    (case l4 => k_is)
    (case c4 => k_is)
    (case k4 => k_is)
    (case a5 => k_is)
    (case l5 => k_is)
    (case c5 => k_is)
    (case k5 => k_is)
    (case a6 => k_is)
    (case l6 => k_is)
    (case c6 => k_is)
    (case k6 => k_is)
    (case a7 => k_is)
    (case l7 => k_is)
    (case c7 => k_is)
    (case k7 => k_is)
    (case a8 => k_is)
    (case l8 => k_is)
    (case c8 => k_is)
    (case k8 => k_is)
    (case a9 => k_is)
    (case l9 => k_is)
    (case c9 => k_is)
    (case k9 => k_is)
    (case a10 => k_is)
    (case l10 => k_is)
    (case c10 => k_is)
    (case k10 => k_is)
    (case a11 => k_is)
    (case l11 => k_is)
    (case c11 => k_is)
    (case k11 => k_is)
    (case a12 => k_is)
    (case l12 => k_is)
    (case c12 => k_is)
    (case k12 => k_is)
    (case a13 => k_is)
    (case l13 => k_is)
    (case c13 => k_is)
    (case k13 => k_is)
    (case a14 => k_is)
    (case l14 => k_is)
    (case c14 => k_is)
    (case k14 => k_is)
    (case a15 => k_is)
    (case l15 => k_is)
    (case c15 => k_is)
    (case k15 => k_is)
    (case a16 => k_is)
    (case l16 => k_is)
    (case c16 => k_is)
    (case k16 => k_is)
    (case a17 => k_is)
    (case l17 => k_is)
    (case c17 => k_is)
    (case k17 => k_is)
    (case a18 => k_is)
    (case l18 => k_is)
    (case c18 => k_is)
    (case k18 => k_is)
    (case a19 => k_is)
    (case l19 => k_is)
    (case c19 => k_is)
    (case k19 => k_is)
    (case a20 => k_is)
    (case l20 => k_is)
    (case c20 => k_is)
    (case k20 => k_is)
    (case a21 => k_is)
    (case l21 => k_is)
    (case c21 => k_is)
    (case k21 => k_is)
    (case a22 => k_is)
    (case l22 => k_is)
    (case c22 => k_is)
    (case k22 => k_is)
    (case ca0 => k_is)
    (case cb0 => k_exc)
    (case cc0 => k_is)
    (case cd_0 => k_is)
    (case ce0 => k_is)
    (case ca1 => k_is)
    (case cb1 => k_exc)
    (case cc1 => k_is)
    (case cd_1 => k_is)
    (case ce1 => k_is)
    (case q2 => k_is)
    (case z27 => k_is)
    (case z28 => k_is)
    (case z29 => k_is)
    (case z30 => k_is)
    (case z31 => k_is)
    (case z32 => k_is)
    (case z33 => k_is)
    (case z34 => k_is)
    (case z35 => k_is)
    (case z36 => k_is)
    (case z37 => k_is)
    (case z38 => k_is)
    (case z39 => k_is)
    (case z40 => k_is)
    (case z41 => k_is)

