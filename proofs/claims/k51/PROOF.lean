import PyProof.Rows.All
import Wide.All
import OpenK.AllK
import Wide.FinOn
import PySem.Challenge.RW_cursorkeys_k51_whole_cursors_act_alone
import HandS.ForMost
import HandS.ForExc
import HandS.ExcCtx
import HandS.HotCalls
import HandS.Evl
import HandS.Zip
import HandS.Style
import HandS.Wide
import HandS.IsInst
import HandS.TupAny
import HandS.TupLe
import HandS.Deep
import HandS.SortInts
import HandS.StrMore
import PyProof.ReprRoads
import HandS.Conv
import HandS.More
import HandS.NoneIn
import PyProof.ListStr
import KE.GoesMore
import KE.KRevSl
import HandS.Text
import PyProof.SliceStr2
import KE.KTupSum
import HandS.TupMul
import HandS.ExcValue
import HandS.ExcIs
import KE.KExcIs
import HandS.SetFor
import HandS.Strs
import HandS.CallRecv
import HandS.Property
import KE.KAssignIn
import KE.GoesEnum
import HandS.Iter
import KE.KOpsOwn
import HandS.Small
import HandS.Star
import PyProof.Rows.SortShell
import HandS.ReplaceDef
import HandS.ReplaceLit
import HandS.ReplaceList
import KE.DataMinMax
import KE.SortData
import HandS.Defaults
import KE.KCallOwn
import PyProof.ReprLen
import PyProof.ReprBulk
set_option Elab.async false
set_option linter.all false
set_option maxRecDepth 100000
set_option maxHeartbeats 4000000
/-! the data layer, part 1: values as data, the store of lists, what stands for what -/
namespace Dl
open PySem
open PySem.Spec
open PyProof.Rows
open L2
open Evl (Ex)

abbrev D := PyData
/-- an error: its class by name, its fields -/
structure Exn where
  cn : Str
  fs : List (Str × D)
/-- other things a name may hold -/
inductive Ob where
  | ref (n : Nat) (cn : Str)
  | exc (e : Exn)
  | cls (cn : Str)
  | scr (ns : List Int)
/-- what an expression hands over: data, or a list of the store by its number -/
inductive R where
  | d (x : D)
  | l (n : Nat)
  | o (b : Ob)
abbrev Sto := List (Option (List D))
/-- what stands at a place of the store: a list; an instance of a class of the program's own -/
inductive Kd where
  | lst
  | ins (cn : Str)
/-- the places, and the lists and dicts that belong to fields of instances -/
structure Am where
  pl : List (Addr × Kd)
  ow : List Addr
def ad (am : Am) : List Addr := am.pl.map (·.1) ++ am.ow
def Am.add (am : Am) (a : Addr) (k : Kd) : Am := ⟨am.pl ++ [(a, k)], am.ow⟩
def Am.cut (am : Am) (m : Nat) : Am := ⟨am.pl.take m, am.ow⟩
theorem mem_ad {am : Am} {n : Nat} {a : Addr} {k : Kd} (h : am.pl[n]? = some (a, k)) : a ∈ ad am := List.mem_append_left _ (List.mem_map.mpr ⟨_, List.mem_of_getElem? h, rfl⟩)
theorem mem_ow {am : Am} {b : Addr} (h : b ∈ am.ow) : b ∈ ad am := List.mem_append_right _ h
theorem ad_add {am : Am} {a b : Addr} {k : Kd} : b ∈ ad (am.add a k) ↔ b ∈ ad am ∨ b = a := by
  unfold ad Am.add
  simp only [List.map_append, List.map_cons, List.map_nil, List.mem_append, List.mem_singleton]
  constructor
  · rintro ((h | h) | h)
    · exact .inl (.inl h)
    · exact .inr h
    · exact .inl (.inr h)
  · rintro ((h | h) | h)
    · exact .inl (.inl h)
    · exact .inr h
    · exact .inl (.inr h)
theorem nd_add {am : Am} {a : Addr} {k : Kd} (h : (ad am).Nodup) (ha : a ∉ ad am) : (ad (am.add a k)).Nodup := by
  have p : (ad (am.add a k)).Perm (a :: ad am) := by
    unfold ad Am.add
    rw [List.map_append, List.append_assoc]
    exact List.perm_middle
  rw [p.nodup_iff]
  exact List.nodup_cons.mpr ⟨ha, h⟩
theorem nd_ad {am : Am} {m n : Nat} {a : Addr} {k k' : Kd} (h : (ad am).Nodup) (h1 : am.pl[m]? = some (a, k)) (h2 : am.pl[n]? = some (a, k')) : m = n := by
  have e1 : (am.pl.map (·.1))[m]? = some a := by
    rw [List.getElem?_map, h1]
    rfl
  have e2 : (am.pl.map (·.1))[n]? = some a := by
    rw [List.getElem?_map, h2]
    rfl
  exact nd_ix (List.nodup_append.mp h).1 e1 e2
theorem nd_ow {am : Am} {n : Nat} {a b : Addr} {k : Kd} (h : (ad am).Nodup) (h1 : am.pl[n]? = some (a, k)) (h2 : b ∈ am.ow) : b ≠ a := fun z =>
  (List.nodup_append.mp h).2.2 a (List.mem_map.mpr ⟨_, List.mem_of_getElem? h1, rfl⟩) b h2 z.symm
theorem ad_cut {am : Am} {m : Nat} {b : Addr} (h : b ∈ ad (am.cut m)) : b ∈ ad am := by
  rcases List.mem_append.mp h with h | h
  · obtain ⟨p, hp, rfl⟩ := List.mem_map.mp h
    exact List.mem_append_left _ (List.mem_map.mpr ⟨p, List.mem_of_mem_take hp, rfl⟩)
  · exact List.mem_append_right _ h
theorem nd_cut {am : Am} {m : Nat} (h : (ad am).Nodup) : (ad (am.cut m)).Nodup := h.sublist (((List.take_sublist _ _).map _).append (List.Sublist.refl _))
/-- the names of the fields, in the order in which __init__ stores them -/
def flds (cn : Str) : List Str :=
  if cn = "Course" then ["before", "behind", "gaps", "indexes", "gone", "pressed_keys"]
  else if cn = "Task" then ["start", "goal", "gone_left", "gone_right", "typed_left", "typed_right", "least", "greatest"]
  else if cn = "Keys" then ["key_text"]
  else ["state", "past"]
/-- a field's entry: data, or a list or a dict of its own -/
def ownL (ds : List D) : D := .dict [(.none, .list ds)]
def ownK (es : List (D × D)) : D := .dict [(.none, .dict es)]
structure Env where
  sl : List (Option R)
  st : Sto

def kD : Key → D
  | .inl i => .int i
  | .inr s => .str s
/-! ### a value that stands for data -/
mutual
inductive Rp (K : PySem.W.Frag) (H : Hp) : V → D → Prop
  | non : Rp K H .non .none
  | bl (b : Bool) : Rp K H (.bl b) (.bool b)
  | int (i : Int) : Rp K H (.int i) (.int i)
  | str (s : Str) : Rp K H (.str s) (.str s)
  | lst {a : Addr} {xs : List V} {ds : List D} : H a = some (.lst xs) → RpA K H xs ds → Rp K H (.ref a) (.list ds)
  | tup {a : Addr} {xs : List V} {ds : List D} : SqT K H a xs → RpA K H xs ds → Rp K H (.ref a) (.tuple ds)
  | dic {a : Addr} {kvs : List (Key × V)} {es : List (D × D)} : H a = some (.dK kvs) → RpK K H kvs es → Rp K H (.ref a) (.dict es)
inductive RpA (K : PySem.W.Frag) (H : Hp) : List V → List D → Prop
  | nil : RpA K H [] []
  | cons {v : V} {d : D} {vs : List V} {ds : List D} : Rp K H v d → RpA K H vs ds → RpA K H (v :: vs) (d :: ds)
inductive RpK (K : PySem.W.Frag) (H : Hp) : List (Key × V) → List (D × D) → Prop
  | nil : RpK K H [] []
  | cons {k : Key} {v : V} {d : D} {vs : List (Key × V)} {ds : List (D × D)} : Rp K H v d → RpK K H vs ds → RpK K H ((k, v) :: vs) ((kD k, d) :: ds)
end
mutual
theorem Rp.mono {K : PySem.W.Frag} {H H' : Hp} (e : Ex H H') : ∀ {v : V} {d : D}, Rp K H v d → Rp K H' v d
  | _, _, .non => .non
  | _, _, .bl b => .bl b
  | _, _, .int i => .int i
  | _, _, .str s => .str s
  | _, _, .lst h r => .lst (e _ _ h) (RpA.mono e r)
  | _, _, .tup h r => .tup (Evl.ex_t e h) (RpA.mono e r)
  | _, _, .dic h r => .dic (e _ _ h) (RpK.mono e r)
theorem RpA.mono {K : PySem.W.Frag} {H H' : Hp} (e : Ex H H') : ∀ {v : List V} {d : List D}, RpA K H v d → RpA K H' v d
  | _, _, .nil => .nil
  | _, _, .cons h r => .cons (Rp.mono e h) (RpA.mono e r)
theorem RpK.mono {K : PySem.W.Frag} {H H' : Hp} (e : Ex H H') : ∀ {v : List (Key × V)} {d : List (D × D)}, RpK K H v d → RpK K H' v d
  | _, _, .nil => .nil
  | _, _, .cons h r => .cons (Rp.mono e h) (RpK.mono e r)
end
section
variable {K : PySem.W.Frag} {H H' Hf Hf' : Hp} {v : V} {vs ws : List V} {d : D} {ds es : List D} {i : Nat}
theorem RpA.length : ∀ {vs : List V} {ds : List D}, RpA K H vs ds → vs.length = ds.length
  | _, _, .nil => rfl
  | _, _, .cons _ r => congrArg (· + 1) r.length
theorem RpA.get : ∀ {vs : List V} {ds : List D} {i : Nat} {v : V}, RpA K H vs ds → vs[i]? = some v → ∃ d, ds[i]? = some d ∧ Rp K H v d
  | _, _, _, _, .nil, e => by cases e
  | _, _, 0, _, .cons h _, e => ⟨_, rfl, by cases e; exact h⟩
  | _, _, i + 1, _, .cons _ r, e => r.get (i := i) e
theorem RpA.getD : ∀ {vs : List V} {ds : List D} {i : Nat} {d : D}, RpA K H vs ds → ds[i]? = some d → ∃ v, vs[i]? = some v ∧ Rp K H v d
  | _, _, _, _, .nil, e => by cases e
  | _, _, 0, _, .cons h _, e => ⟨_, rfl, by cases e; exact h⟩
  | _, _, i + 1, _, .cons _ r, e => r.getD (i := i) e
theorem RpA.append : ∀ {vs : List V} {ds : List D}, RpA K H vs ds → RpA K H ws es → RpA K H (vs ++ ws) (ds ++ es)
  | _, _, .nil, q => q
  | _, _, .cons h r, q => .cons h (r.append q)
theorem RpA.take : ∀ (n : Nat) {vs : List V} {ds : List D}, RpA K H vs ds → RpA K H (vs.take n) (ds.take n)
  | 0, _, _, _ => .nil
  | _ + 1, _, _, .nil => .nil
  | n + 1, _, _, .cons h r => .cons h (r.take n)
theorem RpA.drop : ∀ (n : Nat) {vs : List V} {ds : List D}, RpA K H vs ds → RpA K H (vs.drop n) (ds.drop n)
  | 0, _, _, r => r
  | _ + 1, _, _, .nil => .nil
  | n + 1, _, _, .cons _ r => r.drop n
theorem RpA.set : ∀ (n : Nat) {vs : List V} {ds : List D}, RpA K H vs ds → Rp K H v d → RpA K H (vs.set n v) (ds.set n d)
  | _, _, _, .nil, _ => .nil
  | 0, _, _, .cons _ r, q => .cons q r
  | n + 1, _, _, .cons h r, q => .cons h (r.set n q)
theorem RpA.reverse : ∀ {vs : List V} {ds : List D}, RpA K H vs ds → RpA K H vs.reverse ds.reverse
  | _, _, .nil => .nil
  | _, _, .cons h r => by
    rw [List.reverse_cons, List.reverse_cons]
    exact r.reverse.append (.cons h .nil)
theorem RpA.flat {n : Nat} (h : RpA K H vs ds) : RpA K H (List.replicate n vs).flatten (List.replicate n ds).flatten := by
  induction n with
  | zero => exact .nil
  | succ n ih =>
    rw [List.replicate_succ, List.replicate_succ, List.flatten_cons, List.flatten_cons]
    exact h.append ih
end
/-- data, or a list of the store as it stands in H (its items are frozen) -/
def RpH (K : PySem.W.Frag) (Hf H : Hp) (v : V) (d : D) : Prop :=
  Rp K Hf v d ∨ ∃ a xs ds, v = .ref a ∧ d = .list ds ∧ H a = some (.lst xs) ∧ RpA K Hf xs ds
section
variable {K : PySem.W.Frag} {H H' Hf Hf' : Hp} {v : V} {ds : List D}
theorem RpH.full {d : D} (e : Ex Hf H) : RpH K Hf H v d → Rp K H v d
  | .inl h => h.mono e
  | .inr ⟨_, _, _, h1, h2, h3, h4⟩ => by
    subst h1
    subst h2
    exact .lst h3 (h4.mono e)
theorem RpH.non (h : RpH K Hf H v .none) : v = .non := by
  rcases h with h | ⟨_, _, _, _, h, _⟩
  · cases h
    rfl
  · cases h
theorem RpH.bl {b : Bool} (h : RpH K Hf H v (.bool b)) : v = .bl b := by
  rcases h with h | ⟨_, _, _, _, h, _⟩
  · cases h
    rfl
  · cases h
theorem RpH.int {i : Int} (h : RpH K Hf H v (.int i)) : v = .int i := by
  rcases h with h | ⟨_, _, _, _, h, _⟩
  · cases h
    rfl
  · cases h
theorem RpH.str {s : Str} (h : RpH K Hf H v (.str s)) : v = .str s := by
  rcases h with h | ⟨_, _, _, _, h, _⟩
  · cases h
    rfl
  · cases h
theorem RpH.list (e : Ex Hf H) (h : RpH K Hf H v (.list ds)) : ∃ a xs, v = .ref a ∧ H a = some (.lst xs) ∧ RpA K Hf xs ds := by
  rcases h with h | ⟨a, xs, es, h1, h2, h3, h4⟩
  · cases h with
    | lst h r => exact ⟨_, _, rfl, e _ _ h, r⟩
  · cases h2
    exact ⟨a, xs, h1, h3, h4⟩
theorem RpH.tup (h : RpH K Hf H v (.tuple ds)) : ∃ a xs, v = .ref a ∧ SqT K Hf a xs ∧ RpA K Hf xs ds := by
  rcases h with h | ⟨_, _, _, _, h, _⟩
  · cases h with
    | tup h r => exact ⟨_, _, rfl, h, r⟩
  · cases h
end
theorem takes0N {X : Cx} : L2N.Takes X (fun _ _ _ _ => False) := fun _ _ x => by
  obtain ⟨_, _, _, _, _, _, _, _, _, _, _, _, _, _, _, _, z⟩ := x
  exact z.elim
/-! ### the state -/
/-- an exception object of the class cls at a, with its own dict or without -/
def ExcH (cls : Value) (d : Option Addr) (a : Addr) : HO := .ext fun h => ∃ (oe : Obj) (vs : Array Value), h.get? a = some oe ∧ L2N.Zn cls d oe ∧ oe.data = .fields vs
/-- the fields of an exception, in its dict -/
def FsR (K : PySem.W.Frag) (H : Hp) (fs : List (Str × D)) (d : Option Addr) : Prop :=
  (fs = [] ∧ d = none) ∨ ∃ b vs, fs ≠ [] ∧ d = some b ∧ H b = some (.xd vs) ∧ Paired (fun (p : Str × V) (q : Str × D) => p.1 = q.1 ∧ Rp K H p.2 q.2) vs fs
theorem pairedMono {α β : Type} {R S : α → β → Prop} (h : ∀ a b, R a b → S a b) : ∀ {xs : List α} {ys : List β}, Paired R xs ys → Paired S xs ys
  | _, _, .nil => .nil
  | _, _, .cons a b => .cons (h _ _ a) (pairedMono h b)
theorem FsR.mono {K : PySem.W.Frag} {H H' : Hp} {fs : List (Str × D)} {d : Option Addr} (e : Ex H H') : FsR K H fs d → FsR K H' fs d
  | .inl h => .inl h
  | .inr ⟨b, vs, h0, h1, h2, h3⟩ => .inr ⟨b, vs, h0, h1, e _ _ h2, pairedMono (fun _ _ h => ⟨h.1, h.2.mono e⟩) h3⟩
def ObR (K : PySem.W.Frag) (mg : Str → Option Value) (H : Hp) (v : V) : Ob → Prop
  | .exc e => ∃ a C d oe, v = .ref a ∧ mg e.cn = some (.ref C) ∧ H a = some (.frz oe (ExcH (.ref C) d a)) ∧ FsR K H e.fs d
  | .cls cn => ∃ C, v = .ref C ∧ mg cn = some (.ref C)
  | .scr ns => ∃ a, v = .ref a ∧ SqL K H a (ns.map V.int)
  | .ref _ _ => False
theorem ObR.mono {K : PySem.W.Frag} {mg : Str → Option Value} {H H' : Hp} {v : V} (e : Ex H H') : ∀ {b : Ob}, ObR K mg H v b → ObR K mg H' v b
  | .exc _, ⟨a, C, d, oe, h1, h2, h3, h4⟩ => ⟨a, C, d, oe, h1, h2, e _ _ h3, h4.mono e⟩
  | .cls _, h => h
  | .scr _, ⟨a, h1, h2⟩ => ⟨a, h1, Evl.ex_l e h2⟩
  | .ref _ _, h => h
def ObA (K : PySem.W.Frag) (mg : Str → Option Value) (am : Am) (Hf : Hp) (v : V) : Ob → Prop
  | .ref n cn => ∃ a, v = .ref a ∧ am.pl[n]? = some (a, .ins cn)
  | b => ObR K mg Hf v b
def RelR (K : PySem.W.Frag) (mg : Str → Option Value) (am : Am) (Hf : Hp) (v : V) : R → Prop
  | .d x => Rp K Hf v x
  | .l n => ∃ a, v = .ref a ∧ am.pl[n]? = some (a, .lst)
  | .o b => ObA K mg am Hf v b
theorem RelR.grow {K : PySem.W.Frag} {mg : Str → Option Value} {am am1 : Am} {Hf Hf1 : Hp} {v : V} (e : Ex Hf Hf1) (h : ∀ (n : Nat) (p : Addr × Kd), am.pl[n]? = some p → am1.pl[n]? = some p) : ∀ {x : R}, RelR K mg am Hf v x → RelR K mg am1 Hf1 v x
  | .d _, r => Rp.mono e r
  | .l _, ⟨a, h1, h2⟩ => ⟨a, h1, h _ _ h2⟩
  | .o (.ref _ _), ⟨a, h1, h2⟩ => ⟨a, h1, h _ _ h2⟩
  | .o (.exc b), r => ObR.mono (K := K) (mg := mg) (b := .exc b) e r
  | .o (.cls b), r => ObR.mono (K := K) (mg := mg) (b := .cls b) e r
  | .o (.scr b), r => ObR.mono (K := K) (mg := mg) (b := .scr b) e r
def ItR (K : PySem.W.Frag) (ow : List Addr) (Hf H : Hp) (v : V) (d : D) : Prop :=
  Rp K Hf v d ∨ (∃ b xs es, v = .ref b ∧ d = ownL es ∧ b ∈ ow ∧ Hf b = none ∧ H b = some (.lst xs) ∧ RpA K Hf xs es) ∨ (∃ b kvs es, v = .ref b ∧ d = ownK es ∧ b ∈ ow ∧ Hf b = none ∧ H b = some (.dK kvs) ∧ RpK K Hf kvs es)
theorem ItR.mv {K : PySem.W.Frag} {ow ow1 : List Addr} {Hf Hf1 H H1 : Hp} (e : Ex Hf Hf1) (ho : ∀ b ∈ ow, b ∈ ow1) {v : V} {d : D} (hn : ∀ b, v = .ref b → b ∈ ow → Hf b = none → Hf1 b = none) (hh : ∀ b, v = .ref b → b ∈ ow → H b ≠ none → H1 b = H b) : ItR K ow Hf H v d → ItR K ow1 Hf1 H1 v d
  | .inl r => .inl (r.mono e)
  | .inr (.inl ⟨b, xs, es, h0, h1, h2, h3, h4, h5⟩) => .inr (.inl ⟨b, xs, es, h0, h1, ho _ h2, hn _ h0 h2 h3, by rw [hh _ h0 h2 (by rw [h4]; simp)]; exact h4, h5.mono e⟩)
  | .inr (.inr ⟨b, xs, es, h0, h1, h2, h3, h4, h5⟩) => .inr (.inr ⟨b, xs, es, h0, h1, ho _ h2, hn _ h0 h2 h3, by rw [hh _ h0 h2 (by rw [h4]; simp)]; exact h4, h5.mono e⟩)
structure FldR (K : PySem.W.Frag) (ow : List Addr) (Hf H : Hp) (fs : List (Str × V)) (ds : List D) : Prop where
  len : fs.length = ds.length
  it : ∀ (j : Nat) (p : Str × V) (d : D), fs[j]? = some p → ds[j]? = some d → ItR K ow Hf H p.2 d
theorem FldR.mv {K : PySem.W.Frag} {ow ow1 : List Addr} {Hf Hf1 H H1 : Hp} (e : Ex Hf Hf1) (ho : ∀ b ∈ ow, b ∈ ow1) (hn : ∀ b ∈ ow, Hf b = none → Hf1 b = none) (hh : ∀ b ∈ ow, H b ≠ none → H1 b = H b) {fs : List (Str × V)} {ds : List D} (r : FldR K ow Hf H fs ds) : FldR K ow1 Hf1 H1 fs ds :=
  ⟨r.len, fun j p d h1 h2 => (r.it j p d h1 h2).mv e ho (fun b _ => hn b) (fun b _ => hh b)⟩
def CellR (K : PySem.W.Frag) (mg : Str → Option Value) (ow : List Addr) (Hf H : Hp) (o : HO) (ds : List D) : Kd → Prop
  | .lst => ∃ xs, o = .lst xs ∧ RpA K Hf xs ds
  | .ins cn => ∃ C dx fs, o = .ins C dx fs ∧ mg cn = some (.ref C) ∧ fs.map (·.1) = (flds cn).take ds.length ∧ FldR K ow Hf H fs ds
theorem CellR.mv {K : PySem.W.Frag} {mg : Str → Option Value} {ow ow1 : List Addr} {Hf Hf1 H H1 : Hp} (e : Ex Hf Hf1) (ho : ∀ b ∈ ow, b ∈ ow1) (hn : ∀ b ∈ ow, Hf b = none → Hf1 b = none) (hh : ∀ b ∈ ow, H b ≠ none → H1 b = H b) {o : HO} {ds : List D} : ∀ {k : Kd}, CellR K mg ow Hf H o ds k → CellR K mg ow1 Hf1 H1 o ds k
  | .lst, ⟨xs, h1, h2⟩ => ⟨xs, h1, h2.mono e⟩
  | .ins _, ⟨C, dx, fs, h1, h2, h3, h4⟩ => ⟨C, dx, fs, h1, h2, h3, h4.mv e ho hn hh⟩
/-- what belongs to a field belongs to no other one -/
def Lv (st : Sto) (n : Nat) : Prop := ∃ ds, st[n]? = some (some ds)
def OU (am : Am) (st : Sto) (Hf H : Hp) : Prop := ∀ (n n' : Nat) (a a' : Addr) (cn cn' : Str) (C dx C' dx' : Addr) (fs fs' : List (Str × V)) (j j' : Nat) (f f' : Str) (b : Addr), b ∈ am.ow → Hf b = none → Lv st n → Lv st n' →
  am.pl[n]? = some (a, .ins cn) → H a = some (.ins C dx fs) → fs[j]? = some (f, .ref b) → am.pl[n']? = some (a', .ins cn') → H a' = some (.ins C' dx' fs') → fs'[j']? = some (f', .ref b) → n = n' ∧ j = j'
theorem OU.mv {am : Am} {st st1 : Sto} {Hf Hf1 H H1 : Hp} (h : OU am st Hf H) (lf : Ex Hf Hf1) (e : ∀ (n : Nat) (a : Addr) (cn : Str), am.pl[n]? = some (a, .ins cn) → H1 a = H a) (lv : ∀ n, Lv st1 n → Lv st n) : OU am st1 Hf1 H1 := fun n n' a a' cn cn' C dx C' dx' fs fs' j j' f f' b hb hn l1 l2 h1 h2 h3 h4 h5 h6 => by
  rw [e _ _ _ h1] at h2
  rw [e _ _ _ h4] at h5
  exact h n n' a a' cn cn' C dx C' dx' fs fs' j j' f f' b hb (Evl.fresh_back lf hn) (lv _ l1) (lv _ l2) h1 h2 h3 h4 h5 h6
theorem Lv.take {st : Sto} {m n : Nat} (h : Lv (st.take m) n) : Lv st n := by
  obtain ⟨ds, h⟩ := h
  have hn : n < m := by
    have := (List.getElem?_eq_some_iff.mp h).1
    rw [List.length_take] at this
    omega
  rw [List.getElem?_take_of_lt hn] at h
  exact ⟨ds, h⟩
theorem Lv.left {st st1 : Sto} {n : Nat} (h : Lv (st ++ st1) n) (hn : n < st.length) : Lv st n := by
  obtain ⟨ds, h⟩ := h
  rw [List.getElem?_append_left hn] at h
  exact ⟨ds, h⟩
theorem Lv.set {st : Sto} {m n : Nat} {ds : List D} {x : Option (List D)} (hm : st[m]? = some (some ds)) (h : Lv (st.set m x) n) : Lv st n := by
  by_cases e : n = m
  · rw [e]
    exact ⟨ds, hm⟩
  · obtain ⟨es, h⟩ := h
    rw [List.getElem?_set_ne (Ne.symm e)] at h
    exact ⟨es, h⟩
theorem OU.add {am : Am} {st : Sto} {Hf H : Hp} {k : Kd} {ds : List D} (h : OU am st Hf H) (hl : st.length = am.pl.length) (a0 : Addr) (h0 : ∀ cn, k = .ins cn → ∃ C dx, H a0 = some (.ins C dx [])) : OU (am.add a0 k) (st ++ [some ds]) Hf H := fun n n' a a' cn cn' C dx C' dx' fs fs' j j' f f' b hb hn l1 l2 h1 h2 h3 h4 h5 h6 => by
  have key : ∀ (n : Nat) (a : Addr) (cn : Str) (C dx : Addr) (fs : List (Str × V)) (j : Nat) (p : Str × V), Lv (st ++ [some ds]) n → (am.add a0 k).pl[n]? = some (a, .ins cn) → H a = some (.ins C dx fs) → fs[j]? = some p → am.pl[n]? = some (a, .ins cn) ∧ Lv st n := fun n a cn C dx fs j p l h g1 g2 => by
    have h' : (am.pl ++ [(a0, k)])[n]? = some (a, .ins cn) := h
    by_cases hn : n < am.pl.length
    · rw [List.getElem?_append_left hn] at h'
      exact ⟨h', l.left (by rw [hl]; exact hn)⟩
    · rw [List.getElem?_append_right (by omega)] at h'
      cases e : n - am.pl.length with
      | zero =>
        rw [e] at h'
        obtain ⟨e1, e2⟩ := Prod.mk.inj (Option.some.inj h')
        obtain ⟨C', dx', q⟩ := h0 cn e2
        rw [e1, g1] at q
        obtain rfl : fs = [] := by
          cases q
          rfl
        cases g2
      | succ m =>
        rw [e] at h'
        simp at h'
  obtain ⟨k1, k2⟩ := key _ _ _ _ _ _ _ _ l1 h1 h2 h3
  obtain ⟨k3, k4⟩ := key _ _ _ _ _ _ _ _ l2 h4 h5 h6
  exact h n n' a a' cn cn' C dx C' dx' fs fs' j j' f f' b hb hn k2 k4 k1 h2 h3 k3 h5 h6
theorem OU.cut {am : Am} {st : Sto} {Hf H : Hp} (h : OU am st Hf H) (m : Nat) : OU (am.cut m) (st.take m) Hf H := fun n n' a a' cn cn' C dx C' dx' fs fs' j j' f f' b hb hn l1 l2 h1 h2 h3 h4 h5 h6 => by
  have key : ∀ (n : Nat) (p : Addr × Kd), (am.cut m).pl[n]? = some p → am.pl[n]? = some p := fun n p h => by
    have h' : (am.pl.take m)[n]? = some p := h
    have hn : n < m := by
      have := (List.getElem?_eq_some_iff.mp h').1
      rw [List.length_take] at this
      omega
    rwa [List.getElem?_take_of_lt hn] at h'
  exact h n n' a a' cn cn' C dx C' dx' fs fs' j j' f f' b hb hn l1.take l2.take (key _ _ h1) h2 h3 (key _ _ h4) h5 h6
structure Sim (K : PySem.W.Frag) (mg : Str → Option Value) (am : Am) (Hf H : Hp) (s : L2.St) (r : Env) : Prop where
  le : Ex Hf H
  len : r.st.length = am.pl.length
  nd : (ad am).Nodup
  tr : ∀ a ∈ ad am, H a ≠ none
  cell : ∀ (n : Nat) (a : Addr) (k : Kd) (ds : List D), am.pl[n]? = some (a, k) → r.st[n]? = some (some ds) → Hf a = none ∧ ∃ o, H a = some o ∧ CellR K mg am.ow Hf H o ds k
  ou : OU am r.st Hf H
  sl : ∀ (i : Nat) (x : R), r.sl[i]? = some (some x) → ∃ v, s[i]? = some (some v) ∧ RelR K mg am Hf v x
  sz : r.sl.length = s.length
theorem Sim.live {K : PySem.W.Frag} {mg : Str → Option Value} {am : Am} {Hf H : Hp} {s : L2.St} {r : Env} (S : Sim K mg am Hf H s r) (n : Nat) (a : Addr) (ds : List D) (h1 : am.pl[n]? = some (a, .lst)) (h2 : r.st[n]? = some (some ds)) : Hf a = none ∧ ∃ xs, H a = some (.lst xs) ∧ RpA K Hf xs ds := by
  obtain ⟨h3, o, h4, xs, rfl, h5⟩ := S.cell n a _ ds h1 h2
  exact ⟨h3, xs, h4, h5⟩
/-- from one state to a later one -/
structure Stp (am : Am) (Hf H : Hp) (am' : Am) (Hf' H' : Hp) : Prop where
  pre : (∃ t, am'.pl = am.pl ++ t) ∧ ∀ b ∈ am.ow, b ∈ am'.ow
  nw : ∀ b ∈ ad am', b ∈ ad am ∨ H b = none
  le : Ex Hf Hf'
  old : ∀ b o, H b = some o → b ∉ ad am → H' b = some o
  fz : ∀ b o, Hf' b = some o → Hf b = some o ∨ H b = none ∨ b ∈ ad am
  kp : ∀ b, H b ≠ none → H' b ≠ none
section
variable {K : PySem.W.Frag} {mg : Str → Option Value} {am am1 am2 : Am} {Hf Hf1 Hf2 H H1 H2 : Hp} {s s' : L2.St} {r r' : Env} {v : V} {x : R}
theorem Stp.refl : Stp am Hf H am Hf H := ⟨⟨⟨[], by simp⟩, fun _ h => h⟩, fun _ h => .inl h, Evl.Ex.refl _, fun _ _ h _ => h, fun _ _ h => .inl h, fun _ h => h⟩
theorem Stp.trans (a : Stp am Hf H am1 Hf1 H1) (b : Stp am1 Hf1 H1 am2 Hf2 H2) : Stp am Hf H am2 Hf2 H2 := by
  obtain ⟨⟨t, e1⟩, o1⟩ := a.pre
  obtain ⟨⟨u, e2⟩, o2⟩ := b.pre
  have back : ∀ b, H1 b = none → H b = none := fun b h => by
    cases q : H b with
    | none => rfl
    | some o => exact absurd h (a.kp b (by rw [q]; simp))
  refine ⟨⟨⟨t ++ u, by rw [e2, e1, List.append_assoc]⟩, fun b hb => o2 b (o1 b hb)⟩, fun c hc => ?_, a.le.trans b.le, fun c o h hn => ?_, fun c o h => ?_, fun c h => b.kp c (a.kp c h)⟩
  · rcases b.nw c hc with h | h
    · exact a.nw c h
    · exact .inr (back c h)
  · refine b.old c o (a.old c o h hn) fun hm => ?_
    rcases a.nw c hm with q | q
    · exact hn q
    · rw [h] at q
      cases q
  · rcases b.fz c o h with q | q | q
    · exact a.fz c o q
    · exact .inr (.inl (back c q))
    · rcases a.nw c q with q | q
      · exact .inr (.inr q)
      · exact .inr (.inl q)
theorem Stp.at {n : Nat} {a : Addr × Kd} (q : Stp am Hf H am1 Hf1 H1) (h : am.pl[n]? = some a) : am1.pl[n]? = some a := by
  obtain ⟨⟨t, e⟩, _⟩ := q.pre
  rw [e, List.getElem?_append_left (List.getElem?_eq_some_iff.mp h).1]
  exact h
theorem RelR.mono (q : Stp am Hf H am1 Hf1 H1) (h : RelR K mg am Hf v x) : RelR K mg am1 Hf1 v x := RelR.grow q.le (fun _ _ z => q.at z) h
/-- a pure growth: nothing of the store is touched -/
structure Grow (Hf H Hf' H' : Hp) : Prop where
  lf : Ex Hf Hf'
  lh : Ex H H'
  ff : Ex Hf' H'
  fz : ∀ b o, Hf' b = some o → Hf b = some o ∨ H b = none
theorem Grow.refl (e : Ex Hf H) : Grow Hf H Hf H := ⟨Evl.Ex.refl _, Evl.Ex.refl _, e, fun _ _ h => .inl h⟩
theorem Grow.stp (g : Grow Hf H Hf1 H1) : Stp am Hf H am Hf1 H1 := ⟨⟨⟨[], by simp⟩, fun _ h => h⟩, fun _ h => .inl h, g.lf, fun b o h _ => g.lh b o h, fun b o h => (g.fz b o h).elim .inl fun q => .inr (.inl q), fun b h z => by
  cases q : H b with
  | none => exact h q
  | some o =>
    rw [g.lh b o q] at z
    cases z⟩
theorem Sim.grow (S : Sim K mg am Hf H s r) (g : Grow Hf H Hf1 H1) : Sim K mg am Hf1 H1 s r := by
  refine ⟨g.ff, S.len, S.nd, fun a ha z => ?_, fun n a kk ds h1 h2 => ?_, S.ou.mv g.lf (fun n a cn h => ?_) (fun _ z => z), fun i x h => ?_, S.sz⟩
  · exact (g.stp (am := am)).kp a (S.tr a ha) z
  · obtain ⟨h3, xs, h4, h5⟩ := S.cell n a kk ds h1 h2
    have back : ∀ b, H b ≠ none → Hf b = none → Hf1 b = none := fun b hb h0 => by
      cases q : Hf1 b with
      | none => rfl
      | some o =>
        rcases g.fz b o q with z | z
        · rw [h0] at z
          cases z
        · exact absurd z hb
    refine ⟨?_, xs, g.lh _ _ h4, CellR.mv g.lf (fun _ z => z) (fun b hb h0 => back b (S.tr b (mem_ow hb)) h0) (fun b hb h0 => ?_) h5⟩
    rotate_left
    · cases q : H b with
      | none => exact absurd q h0
      | some o => exact g.lh b o q
    cases q : Hf1 a with
    | none => rfl
    | some o =>
      rcases g.fz a o q with z | z
      · rw [h3] at z
        cases z
      · rw [h4] at z
        cases z
  · have := S.tr a (mem_ad h)
    cases q : H a with
    | none => exact absurd q this
    | some o => exact g.lh a o q
  · obtain ⟨v, h1, h2⟩ := S.sl i x h
    exact ⟨v, h1, h2.mono (g.stp (am := am) (H := H) (H1 := H1))⟩
/-- a new object, known as data at once -/
theorem Grow.new {p : Addr} {o : HO} (e : Ex Hf H) (h : H p = none) : Grow Hf H (upd Hf p o) (upd H p o) := by
  have hf : Hf p = none := Evl.fresh_back e h
  refine ⟨Evl.Ex.new hf, Evl.Ex.new h, fun b u q => ?_, fun b u q => ?_⟩
  · by_cases hb : b = p
    · rw [hb, upd_same] at q ⊢
      exact q
    · rw [upd_ne hb] at q ⊢
      exact e b u q
  · by_cases hb : b = p
    · right
      rw [hb]
      exact h
    · rw [upd_ne hb] at q
      exact .inl q
/-- a new object that is not data (never looked at again) -/
theorem Grow.lost {p : Addr} {o : HO} (e : Ex Hf H) (h : H p = none) : Grow Hf H Hf (upd H p o) :=
  ⟨Evl.Ex.refl _, Evl.Ex.new h, e.trans (Evl.Ex.new h), fun _ _ q => .inl q⟩
theorem Grow.trans (a : Grow Hf H Hf1 H1) (b : Grow Hf1 H1 Hf2 H2) : Grow Hf H Hf2 H2 :=
  ⟨a.lf.trans b.lf, a.lh.trans b.lh, b.ff, fun c o h => by
    rcases b.fz c o h with q | q
    · exact a.fz c o q
    · exact .inr (Evl.fresh_back a.lh q)⟩
end

/-! ### the data programs -/
abbrev KE := R → Env → Prop
abbrev XQ := Exn → Env → Prop
/-- an expression; one that makes a list; a test; arguments; what is walked; a statement -/
abbrev WE := Env → KE → XQ → Prop
abbrev WL := Env → (List D → Env → Prop) → XQ → Prop
abbrev WT := Env → (Bool → Env → Prop) → XQ → Prop
abbrev WA := Env → (List R → Env → Prop) → XQ → Prop
structure Post where
  nx : Env → Prop
  rt : R → Env → Prop
  bk : Env → Prop
  ct : Env → Prop
  ex : XQ
abbrev WS := Env → Post → Prop

def lstAt (r : Env) (n : Nat) (k : List D → Prop) : Prop := match r.st[n]? with
  | some (some ds) => k ds
  | _ => False
/-- the data that stands behind -/
def dref (x : R) (r : Env) (k : D → Prop) : Prop := match x with
  | .d x => k x
  | .l n => lstAt r n fun ds => k (.list ds)
  | .o _ => False
def R.kill (n : Nat) (d : D) : R → R
  | .l m => if m = n then .d d else .l m
  | x => x
def Env.kill (r : Env) (n : Nat) (d : D) : Env := ⟨r.sl.map fun x => x.map (R.kill n d), r.st.set n none⟩
/-- .. for good: a list of the store is one no longer -/
def frz (x : R) (r : Env) (k : D → Env → Prop) : Prop := match x with
  | .d x => k x r
  | .l n => lstAt r n fun ds => k (.list ds) (r.kill n (.list ds))
  | .o _ => False
def Env.put (r : Env) (i : Nat) (x : R) : Env := ⟨r.sl.set i (some x), r.st⟩

/-- an exception as the layer below has it -/
def ExR (K : PySem.W.Frag) (mg : Str → Option Value) (H : Hp) (e : Exn) (C : Value) (d : Option Addr) : Prop :=
  ∃ c, mg e.cn = some (.ref c) ∧ C = .ref c ∧ FsR K H e.fs d

/-! ### the readings -/
section
variable (K : PySem.W.Frag) (mg : Str → Option Value) (W : WX)
def XC (x : XQ) (am : Am) (Hf H : Hp) (s : L2.St) : Prop :=
  ∀ e r' am' Hf' H' s' C d, Stp am Hf H am' Hf' H' → Sim K mg am' Hf' H' s' r' → s' = s → ExR K mg Hf' e C d → x e r' → W C d s' H'
def XS (x : XQ) (am : Am) (Hf H : Hp) : Prop :=
  ∀ e r' am' Hf' H' s' C d, Stp am Hf H am' Hf' H' → Sim K mg am' Hf' H' s' r' → ExR K mg Hf' e C d → x e r' → W C d s' H'
def tE (w : WE) : TE := fun s H Q => ∃ am Hf r k x, Sim K mg am Hf H s r ∧ w r k x ∧
  (∀ y r' am' Hf' H' v, Stp am Hf H am' Hf' H' → Sim K mg am' Hf' H' s r' → RelR K mg am' Hf' v y → k y r' → Q v H') ∧ XC K mg W x am Hf H s
def tL (w : WL) : TE := fun s H Q => ∃ am Hf r k x, Sim K mg am Hf H s r ∧ w r k x ∧
  (∀ ds r' am' Hf' H' a xs, Stp am Hf H am' Hf' H' → Sim K mg am' Hf' H' s r' → H' a = some (.lst xs) → Hf' a = none → a ∉ ad am' → H a = none → RpA K Hf' xs ds → k ds r' → Q (.ref a) H') ∧ XC K mg W x am Hf H s
def tT (w : WT) : TT := fun s H Q => ∃ am Hf r k x, Sim K mg am Hf H s r ∧ w r k x ∧
  (∀ b r' am' Hf' H', Stp am Hf H am' Hf' H' → Sim K mg am' Hf' H' s r' → k b r' → Q b H') ∧ XC K mg W x am Hf H s
def tA (w : WA) : TA := fun s H Q => ∃ am Hf r k x, Sim K mg am Hf H s r ∧ w r k x ∧
  (∀ ys r' am' Hf' H' vs, Stp am Hf H am' Hf' H' → Sim K mg am' Hf' H' s r' → Paired (RelR K mg am' Hf') vs ys → k ys r' → Q vs H') ∧ XC K mg W x am Hf H s
def tS (w : WS) : TS := fun Z s H => ∃ am Hf r p, Sim K mg am Hf H s r ∧ w r p ∧
  (∀ r' am' Hf' H' s', Stp am Hf H am' Hf' H' → Sim K mg am' Hf' H' s' r' → p.nx r' → Z.nx s' H') ∧
  (∀ y r' am' Hf' H' s' v, Stp am Hf H am' Hf' H' → Sim K mg am' Hf' H' s' r' → RelR K mg am' Hf' v y → p.rt y r' → Z.rt v H') ∧
  (∀ r' am' Hf' H' s', Stp am Hf H am' Hf' H' → Sim K mg am' Hf' H' s' r' → p.bk r' → Z.bk s' H') ∧
  (∀ r' am' Hf' H' s', Stp am Hf H am' Hf' H' → Sim K mg am' Hf' H' s' r' → p.ct r' → Z.ct s' H') ∧ XS K mg W p.ex am Hf H
end
abbrev SE (X : Cx) (W : WX) (e : Expr) (w : WE) : Prop := PE X e (tE X.K X.mg W w)
abbrev SL (X : Cx) (W : WX) (e : Expr) (w : WL) : Prop := PE X e (tL X.K X.mg W w)
abbrev ST (X : Cx) (W : WX) (e : Expr) (w : WT) : Prop := PT X e (tT X.K X.mg W w)
abbrev SW (X : Cx) (W : WX) (e : Expr) (w : WT) : Prop := PW X e (tT X.K X.mg W w)
abbrev SA (X : Cx) (W : WX) (es : List Expr) (w : WA) : Prop := PA X es (tA X.K X.mg W w)
abbrev SS (X : Cx) (W : WX) (st : Stmt) (w : WS) : Prop := PS X st (tS X.K X.mg W w)
abbrev SB (X : Cx) (W : WX) (st : List Stmt) (w : WS) : Prop := PSs X st (tS X.K X.mg W w)

section
variable {X : Cx} {e : Expr} {st : Stmt}
theorem peI {t t' : TE} (h : PE X e t) (i : ∀ s H Q, t' s H Q → t s H Q) : PE X e t' := ⟨fun pins s σ H Q I q => h.run pins s σ H Q I (i _ _ _ q)⟩
theorem ptI {t t' : TT} (h : PT X e t) (i : ∀ s H Q, t' s H Q → t s H Q) : PT X e t' := ⟨fun pins s σ H Q I q => h.run pins s σ H Q I (i _ _ _ q)⟩
theorem pwI {t t' : TT} (h : PW X e t) (i : ∀ s H Q, t' s H Q → t s H Q) : PW X e t' := ⟨fun wh pins s σ H Q I q => h.run wh pins s σ H Q I (i _ _ _ q)⟩
theorem paI {es : List Expr} {t t' : TA} (h : PA X es t) (i : ∀ s H Q, t' s H Q → t s H Q) : PA X es t' := ⟨fun p pins s σ H Q I q => h.run p pins s σ H Q I (i _ _ _ q)⟩
theorem psI {t t' : TS} (h : PS X st t) (i : ∀ Z s H, t' Z s H → t Z s H) : PS X st t' := ⟨fun pins s σ H Z I q => h.run pins s σ H Z I (i _ _ _ q)⟩
theorem pssI {sts : List Stmt} {t t' : TS} (h : PSs X sts t) (i : ∀ Z s H, t' Z s H → t Z s H) : PSs X sts t' := ⟨fun pins s σ H Z I q => h.run pins s σ H Z I (i _ _ _ q)⟩
end
section
variable {K : PySem.W.Frag} {mg : Str → Option Value} {W : WX} {am am1 : Am} {Hf Hf1 H H1 : Hp} {s : L2.St} {r : Env} {v : V} {y : R} {x : XQ}
theorem XC.next (h : XC K mg W x am Hf H s) (q : Stp am Hf H am1 Hf1 H1) : XC K mg W x am1 Hf1 H1 s := fun e r' am' Hf' H' s' C d st S es er hx => h e r' am' Hf' H' s' C d (q.trans st) S es er hx
theorem XS.next (h : XS K mg W x am Hf H) (q : Stp am Hf H am1 Hf1 H1) : XS K mg W x am1 Hf1 H1 := fun e r' am' Hf' H' s' C d st S er hx => h e r' am' Hf' H' s' C d (q.trans st) S er hx
theorem XS.at (h : XS K mg W x am Hf H) : XC K mg W x am Hf H s := fun e r' am' Hf' H' s' C d st S _ er hx => h e r' am' Hf' H' s' C d st S er hx
theorem dref_ok {k : D → Prop} (S : Sim K mg am Hf H s r) (h : RelR K mg am Hf v y) (q : dref y r k) : ∃ d, RpH K Hf H v d ∧ k d := by
  cases y with
  | d x => exact ⟨x, .inl h, q⟩
  | l n =>
    obtain ⟨a, rfl, ha⟩ := h
    unfold dref lstAt at q
    cases e : r.st[n]? with
    | none => simp [e] at q
    | some o =>
      cases o with
      | none => simp [e] at q
      | some ds =>
        simp only [e] at q
        obtain ⟨_, xs, h1, h2⟩ := S.live n a ds ha e
        exact ⟨_, .inr ⟨a, xs, ds, rfl, rfl, h1, h2⟩, q⟩
  | o b => exact q.elim
theorem frz_ok {k : D → Env → Prop} (S : Sim K mg am Hf H s r) (h : RelR K mg am Hf v y) (q : frz y r k) : ∃ d r' Hf', Stp am Hf H am Hf' H ∧ Sim K mg am Hf' H s r' ∧ Rp K Hf' v d ∧ k d r' := by
  cases y with
  | d x => exact ⟨x, r, Hf, .refl, S, h, q⟩
  | l n =>
    obtain ⟨a, rfl, ha⟩ := h
    unfold frz lstAt at q
    cases e : r.st[n]? with
    | none => simp [e] at q
    | some o =>
      cases o with
      | none => simp [e] at q
      | some ds =>
        simp only [e] at q
        obtain ⟨h0, xs, h1, h2⟩ := S.live n a ds ha e
        have lf : Ex Hf (upd Hf a (.lst xs)) := Evl.Ex.new h0
        have hr : Rp K (upd Hf a (.lst xs)) (.ref a) (.list ds) := .lst upd_same (h2.mono lf)
        refine ⟨_, _, upd Hf a (.lst xs), ⟨⟨⟨[], by simp⟩, fun _ h => h⟩, fun _ z => .inl z, lf, fun _ _ z _ => z, fun b o z => ?_, fun _ z => z⟩, ⟨fun b o z => ?_, ?_, S.nd, S.tr, fun m b kk es hb hs => ?_, S.ou.mv lf (fun _ _ _ _ => rfl) (fun _ z => Lv.set e z), fun i x hx => ?_, ?_⟩, hr, q⟩
        · by_cases hb : b = a
          · rw [hb]
            exact .inr (.inr (mem_ad ha))
          · rw [upd_ne hb] at z
            exact .inl z
        · by_cases hb : b = a
          · rw [hb, upd_same] at z
            rw [hb, h1]
            exact z
          · rw [upd_ne hb] at z
            exact S.le b o z
        · show (r.st.set n none).length = am.pl.length
          rw [List.length_set]
          exact S.len
        · have hmn : m ≠ n := fun z => by
            have hs' : (r.st.set n none)[m]? = some (some es) := hs
            rw [z, List.getElem?_set_self (List.getElem?_eq_some_iff.mp e).1] at hs'
            cases hs'
          have hs' : r.st[m]? = some (some es) := by
            have hs' : (r.st.set n none)[m]? = some (some es) := hs
            rwa [List.getElem?_set_ne (Ne.symm hmn)] at hs'
          have hba : b ≠ a := fun z => hmn (by
            rw [z] at hb
            exact nd_ad S.nd hb ha)
          obtain ⟨g0, ys, g1, g2⟩ := S.cell m b kk es hb hs'
          exact ⟨by rw [upd_ne hba]; exact g0, ys, g1, CellR.mv lf (fun _ z => z) (fun c hc h0 => by rw [upd_ne (nd_ow S.nd ha hc)]; exact h0) (fun _ _ _ => rfl) g2⟩
        · have hx' : (r.sl.map fun x => x.map (R.kill n (.list ds)))[i]? = some (some x) := hx
          rw [List.getElem?_map] at hx'
          cases e2 : r.sl[i]? with
          | none =>
            rw [e2] at hx'
            cases hx'
          | some z =>
            rw [e2] at hx'
            cases z with
            | none => cases hx'
            | some z =>
              have hz : R.kill n (.list ds) z = x := by simpa using hx'
              obtain ⟨w, hw, hr2⟩ := S.sl i z e2
              refine ⟨w, hw, ?_⟩
              cases z with
              | d y =>
                subst hz
                exact Rp.mono lf hr2
              | l m =>
                obtain ⟨b, rfl, hb⟩ := hr2
                by_cases hmn : m = n
                · have e3 : x = .d (.list ds) := by
                    rw [← hz]
                    exact if_pos hmn
                  rw [e3]
                  have : b = a := by
                    rw [hmn, ha] at hb
                    exact (Prod.mk.inj (Option.some.inj hb)).1.symm
                  rw [this]
                  exact hr
                · have e3 : x = .l m := by
                    rw [← hz]
                    exact if_neg hmn
                  rw [e3]
                  exact ⟨b, rfl, hb⟩
              | o b =>
                subst hz
                exact RelR.grow (x := .o b) lf (fun _ _ z => z) hr2
        · show (r.sl.map _).length = s.length
          rw [List.length_map]
          exact S.sz
  | o b => exact q.elim
end
end Dl

/-! the data layer, part 2: expressions -/
namespace Dl
open PySem
open PySem.Spec
open PyProof.Rows
open L2
open Evl (Ex)

theorem relB {K : PySem.W.Frag} {mg : Str → Option Value} {am : Am} {Hf : Hp} {b : Bool} : RelR K mg am Hf (V.bl b) (.d (.bool b)) := Rp.bl b
/-! ### names, constants -/
def wVar (i : Nat) : WE := fun r k _ => match r.sl[i]? with
  | some (some y) => k y r
  | _ => False
def wC (d : D) : WE := fun r k _ => k (.d d) r
def wO (b : Ob) : WE := fun r k _ => k (.o b) r
section
variable {X : Cx} {W : WX} {pos : Pos}
theorem se_var (i : Nat) {x : Str} (hN : X.N[i]? = some x := by rfl) (hv : Vis X.env.scope x := by first | exact Or.inl rfl | exact Or.inr (Or.inl rfl) | exact Or.inr (Or.inr rfl)) (hd : (x == ("__debug__" : Str)) = false := by decide)
    (hcd : (x == ("__classdict__" : Str)) = false := by decide) : SE X W (.Name x pos) (wVar i) := by
  refine peI (pe_var hN hv hd hcd) fun s H Q h => ?_
  obtain ⟨am, Hf, r, k, x, S, hw, hk, hx⟩ := h
  unfold wVar at hw
  cases e : r.sl[i]? with
  | none => simp [e] at hw
  | some o =>
    cases o with
    | none => simp [e] at hw
    | some y =>
      simp only [e] at hw
      obtain ⟨v, h1, h2⟩ := S.sl i y e
      exact ⟨v, h1, hk y r am Hf H v .refl S h2 hw⟩
/-- any expression that is a constant -/
theorem se_k {e : Expr} {v : V} {d : D} (h : PE X e (tC v)) (hr : ∀ H, Rp X.K H v d) : SE X W e (wC d) := by
  refine peI h fun s H Q h => ?_
  obtain ⟨am, Hf, r, k, x, S, hw, hk, hx⟩ := h
  exact hk (.d d) r am Hf H v .refl S (hr Hf) hw
theorem se_int {i j} : SE X W (.Constant (.int i) j pos) (wC (.int i)) := se_k pe_int fun _ => .int _
theorem se_bl {b j} : SE X W (.Constant (.bool b) j pos) (wC (.bool b)) := se_k pe_bl fun _ => .bl _
theorem se_non {j} : SE X W (.Constant .none j pos) (wC .none) := se_k pe_non fun _ => .non
theorem se_str {x z j} (h : x = z) : SE X W (.Constant (.str x) j pos) (wC (.str z)) := by
  subst h
  exact se_k pe_str fun _ => .str _
theorem se_gstr {x z : Str} {t : Tok} (hm : X.mg x = some (.str z t)) (hg : Gl X x := by rfl) (hd : (x == ("__debug__" : Str)) = false := by decide) : SE X W (.Name x pos) (wC (.str z)) := se_k (pe_glob (v := .str z) hg hm ⟨_, rfl⟩ hd) fun _ => .str _
end

/-! ### operations by values -/
abbrev G1 := D → (D → Prop) → Prop
abbrev G2 := D → D → (D → Prop) → Prop
abbrev GA := List D → (D → Prop) → Prop
/-- what follows an operation that touches nothing: the answer is data -/
def Fol (K : PySem.W.Frag) (Hf H : Hp) (k : D → Prop) (Q : VK) : Prop := ∀ v d Hf' H', Grow Hf H Hf' H' → Rp K Hf' v d → k d → Q v H'
theorem Fol.here {K : PySem.W.Frag} {Hf H : Hp} {k : D → Prop} {Q : VK} {v : V} {d : D} (h : Fol K Hf H k Q) (e : Ex Hf H) (r : Rp K Hf v d) (q : k d) : Q v H := h v d Hf H (.refl e) r q
theorem Fol.new {K : PySem.W.Frag} {Hf H : Hp} {k : D → Prop} {Q : VK} {xs : List V} {ds : List D} {p : Addr} (h : Fol K Hf H k Q) (e : Ex Hf H) (r : RpA K Hf xs ds) (hp : H p = none) (q : k (.list ds)) : Q (.ref p) (upd H p (.lst xs)) := by
  refine h _ _ _ _ (.new e hp) (.lst upd_same (r.mono ?_)) q
  exact Ex.new (Evl.fresh_back e hp)
theorem Fol.newT {K : PySem.W.Frag} {Hf H : Hp} {k : D → Prop} {Q : VK} {xs : List V} {ds : List D} {p : Addr} (h : Fol K Hf H k Q) (e : Ex Hf H) (r : RpA K Hf xs ds) (hp : H p = none) (q : k (.tuple ds)) : Q (.ref p) (upd H p (.tup xs)) := by
  refine h _ _ _ _ (.new e hp) (.tup (Evl.st_of upd_same) (r.mono ?_)) q
  exact Ex.new (Evl.fresh_back e hp)
def Op2 (X : Cx) (f : Value → Value → Sem Value) (g : G2) : Prop := ∃ r, OpR X f r ∧ ∀ x y Hf H dx dy k Q, Ex Hf H → RpH X.K Hf H x dx → RpH X.K Hf H y dy → g dx dy k → Fol X.K Hf H k Q → r x y H Q
def Op1 (X : Cx) (f : Value → Sem Value) (g : G1) : Prop := ∃ r, UnR X f r ∧ ∀ x Hf H dx k Q, Ex Hf H → RpH X.K Hf H x dx → g dx k → Fol X.K Hf H k Q → r x H Q
inductive RpHs (K : PySem.W.Frag) (Hf H : Hp) : List V → List D → Prop
  | nil : RpHs K Hf H [] []
  | cons {v : V} {d : D} {vs : List V} {ds : List D} : RpH K Hf H v d → RpHs K Hf H vs ds → RpHs K Hf H (v :: vs) (d :: ds)
def OpC (X : Cx) (f : Value) (g : GA) : Prop := ∃ r, CallR X f r ∧ ∀ xs Hf H ds k Q, Ex Hf H → RpHs X.K Hf H xs ds → g ds k → Fol X.K Hf H k Q → r xs H Q
/-- both arms -/
def G2.or (g g' : G2) : G2 := fun x y k => g x y k ∨ g' x y k
def G1.or (g g' : G1) : G1 := fun x k => g x k ∨ g' x k
def GA.or (g g' : GA) : GA := fun x k => g x k ∨ g' x k
section
variable {X : Cx}
theorem Op2.or {f : Value → Value → Sem Value} {g g' : G2} (h : Op2 X f g) (h' : Op2 X f g') : Op2 X f (g.or g') := by
  obtain ⟨r, a, b⟩ := h
  obtain ⟨r', a', b'⟩ := h'
  exact ⟨_, a.or a', fun x y Hf H dx dy k Q e rx ry q F => q.elim (fun q => .inl (b x y Hf H dx dy k Q e rx ry q F)) fun q => .inr (b' x y Hf H dx dy k Q e rx ry q F)⟩
theorem Op2.imp {f : Value → Value → Sem Value} {g g' : G2} (h : Op2 X f g) (i : ∀ x y k, g' x y k → g x y k) : Op2 X f g' := by
  obtain ⟨r, a, b⟩ := h
  exact ⟨r, a, fun x y Hf H dx dy k Q e rx ry q F => b x y Hf H dx dy k Q e rx ry (i _ _ _ q) F⟩
theorem OpC.or {f : Value} {g g' : GA} (h : OpC X f g) (h' : OpC X f g') : OpC X f (g.or g') := by
  obtain ⟨r, a, b⟩ := h
  obtain ⟨r', a', b'⟩ := h'
  refine ⟨fun xs H Q => r xs H Q ∨ r' xs H Q, fun pins s σ H xs us Q I rv q => ?_, fun xs Hf H ds k Q e rx q F => q.elim (fun q => .inl (b xs Hf H ds k Q e rx q F)) fun q => .inr (b' xs Hf H ds k Q e rx q F)⟩
  rcases q with q | q
  · exact a pins s σ H xs us Q I rv q
  · exact a' pins s σ H xs us Q I rv q
theorem OpC.imp {f : Value} {g g' : GA} (h : OpC X f g) (i : ∀ x k, g' x k → g x k) : OpC X f g' := by
  obtain ⟨r, a, b⟩ := h
  exact ⟨r, a, fun xs Hf H ds k Q e rx q F => b xs Hf H ds k Q e rx (i _ _ q) F⟩
end
section
variable {K : PySem.W.Frag} {mg : Str → Option Value} {am am1 : Am} {Hf Hf1 H H1 : Hp} {s : L2.St} {r : Env} {v : V} {x : XQ}
/-- what stood for an R still does, in a later state -/
theorem fol_of {kk : KE} {Q : VK} (S : Sim K mg am Hf H s r) (hk : ∀ y r' am' Hf' H' v, Stp am Hf H am' Hf' H' → Sim K mg am' Hf' H' s r' → RelR K mg am' Hf' v y → kk y r' → Q v H') : Fol K Hf H (fun d => kk (.d d) r) Q :=
  fun v d Hf' H' g rp q => hk (.d d) r am Hf' H' v g.stp (S.grow g) rp q
end
def wOp2 (g : G2) (wa wb : WE) : WE := fun r k x => wa r (fun a r1 => wb r1 (fun b r2 => dref a r2 fun da => dref b r2 fun db => g da db fun d => k (.d d) r2) x) x
def wOp1 (g : G1) (wa : WE) : WE := fun r k x => wa r (fun a r1 => dref a r1 fun da => g da fun d => k (.d d) r1) x
section
variable {X : Cx} {W : WX} {pos : Pos} {a b c : Expr} {wa wb wc : WE}
/-- the heart of all two-place operations -/
theorem tOp_of {r : R2} {g : G2} {s : L2.St} {H : Hp} {Q : VK} (hr : ∀ x y Hf H dx dy k Q, Ex Hf H → RpH X.K Hf H x dx → RpH X.K Hf H y dy → g dx dy k → Fol X.K Hf H k Q → r x y H Q)
    (h : tE X.K X.mg W (wOp2 g wa wb) s H Q) : tOp r (tE X.K X.mg W wa) (tE X.K X.mg W wb) s H Q := by
  obtain ⟨am, Hf, e, k, x, S, hw, hk, hx⟩ := h
  refine ⟨am, Hf, e, _, x, S, hw, fun ya r1 am1 Hf1 H1 va p1 S1 ra q1 => ?_, hx⟩
  refine ⟨am1, Hf1, r1, _, x, S1, q1, fun yb r2 am2 Hf2 H2 vb p2 S2 rb q2 => ?_, hx.next p1⟩
  obtain ⟨da, rda, q3⟩ := dref_ok S2 (ra.mono p2) q2
  obtain ⟨db, rdb, q4⟩ := dref_ok S2 rb q3
  exact hr _ _ _ _ _ _ _ _ S2.le rda rdb q4 (fol_of S2 fun y r' am' Hf' H' v p S' rr q => hk y r' am' Hf' H' v ((p1.trans p2).trans p) S' rr q)
theorem se_op {op : Operator} {g : G2} (o : Op2 X (binaryOp op) g) (ha : SE X W a wa) (hb : SE X W b wb) : SE X W (.BinOp a op b pos) (wOp2 g wa wb) := by
  obtain ⟨r, ho, hr⟩ := o
  exact peI (pe_op ho ha hb) fun s H Q h => tOp_of hr h
theorem se_un {op : UnaryOp} {g : G1} (o : Op1 X (unaryOp op) g) (ha : SE X W a wa) : SE X W (.UnaryOp op a pos) (wOp1 g wa) := by
  obtain ⟨r, ho, hr⟩ := o
  refine peI (pe_un ho ha) fun s H Q h => ?_
  obtain ⟨am, Hf, e, k, x, S, hw, hk, hx⟩ := h
  refine ⟨am, Hf, e, _, x, S, hw, fun ya r1 am1 Hf1 H1 va p1 S1 ra q1 => ?_, hx⟩
  obtain ⟨da, rda, q3⟩ := dref_ok S1 ra q1
  exact hr _ _ _ _ _ _ S1.le rda q3 (fol_of S1 fun y r' am' Hf' H' v p S' rr q => hk y r' am' Hf' H' v (p1.trans p) S' rr q)
end
/-! ### comparisons: the answer is a truth value -/
abbrev GB := D → D → (Bool → Prop) → Prop
def FolB (Hf H : Hp) (k : Bool → Prop) (Q : VK) : Prop := ∀ b Hf' H', Grow Hf H Hf' H' → k b → Q (.bl b) H'
def OpB (X : Cx) (f : Value → Value → Sem Value) (g : GB) : Prop := ∃ r, OpR X f r ∧ ∀ x y Hf H dx dy k Q, Ex Hf H → RpH X.K Hf H x dx → RpH X.K Hf H y dy → g dx dy k → FolB Hf H k Q → r x y H Q
def GB.or (g g' : GB) : GB := fun x y k => g x y k ∨ g' x y k
section
variable {X : Cx} {W : WX} {pos : Pos} {a b c : Expr} {wa wb wc : WE}
theorem OpB.or {f : Value → Value → Sem Value} {g g' : GB} (h : OpB X f g) (h' : OpB X f g') : OpB X f (g.or g') := by
  obtain ⟨r, a, b⟩ := h
  obtain ⟨r', a', b'⟩ := h'
  exact ⟨_, a.or a', fun x y Hf H dx dy k Q e rx ry q F => q.elim (fun q => .inl (b x y Hf H dx dy k Q e rx ry q F)) fun q => .inr (b' x y Hf H dx dy k Q e rx ry q F)⟩
theorem OpB.imp {f : Value → Value → Sem Value} {g g' : GB} (h : OpB X f g) (i : ∀ x y k, g' x y k → g x y k) : OpB X f g' := by
  obtain ⟨r, a, b⟩ := h
  exact ⟨r, a, fun x y Hf H dx dy k Q e rx ry q F => b x y Hf H dx dy k Q e rx ry (i _ _ _ q) F⟩
def wCmp (g : GB) (wa wb : WE) : WE := fun r k x => wa r (fun a r1 => wb r1 (fun b r2 => dref a r2 fun da => dref b r2 fun db => g da db fun d => k (.d (.bool d)) r2) x) x
def wCmpT (g : GB) (wa wb : WE) : WT := fun r k x => wa r (fun a r1 => wb r1 (fun b r2 => dref a r2 fun da => dref b r2 fun db => g da db fun d => k d r2) x) x
theorem tCmp_of {r : R2} {g : GB} {s : L2.St} {H : Hp} {Q : VK} (hr : ∀ x y Hf H dx dy k Q, Ex Hf H → RpH X.K Hf H x dx → RpH X.K Hf H y dy → g dx dy k → FolB Hf H k Q → r x y H Q)
    (h : tE X.K X.mg W (wCmp g wa wb) s H Q) : tOp r (tE X.K X.mg W wa) (tE X.K X.mg W wb) s H Q := by
  obtain ⟨am, Hf, e, k, x, S, hw, hk, hx⟩ := h
  refine ⟨am, Hf, e, _, x, S, hw, fun ya r1 am1 Hf1 H1 va p1 S1 ra q1 => ?_, hx⟩
  refine ⟨am1, Hf1, r1, _, x, S1, q1, fun yb r2 am2 Hf2 H2 vb p2 S2 rb q2 => ?_, hx.next p1⟩
  obtain ⟨da, rda, q3⟩ := dref_ok S2 (ra.mono p2) q2
  obtain ⟨db, rdb, q4⟩ := dref_ok S2 rb q3
  exact hr _ _ _ _ _ _ _ _ S2.le rda rdb q4 fun b Hf' H' g q => hk _ r2 am2 Hf' H' _ ((p1.trans p2).trans g.stp) (S2.grow g) relB q
theorem tCmpT_of {r : R2} {g : GB} {s : L2.St} {H : Hp} {Q : Bool → Hp → Prop} (hr : ∀ x y Hf H dx dy k Q, Ex Hf H → RpH X.K Hf H x dx → RpH X.K Hf H y dy → g dx dy k → FolB Hf H k Q → r x y H Q)
    (h : tT X.K X.mg W (wCmpT g wa wb) s H Q) : tTest (tOp r (tE X.K X.mg W wa) (tE X.K X.mg W wb)) s H Q := by
  obtain ⟨am, Hf, e, k, x, S, hw, hk, hx⟩ := h
  refine ⟨am, Hf, e, _, x, S, hw, fun ya r1 am1 Hf1 H1 va p1 S1 ra q1 => ?_, hx⟩
  refine ⟨am1, Hf1, r1, _, x, S1, q1, fun yb r2 am2 Hf2 H2 vb p2 S2 rb q2 => ?_, hx.next p1⟩
  obtain ⟨da, rda, q3⟩ := dref_ok S2 (ra.mono p2) q2
  obtain ⟨db, rdb, q4⟩ := dref_ok S2 rb q3
  exact hr _ _ _ _ _ _ _ _ S2.le rda rdb q4 fun b Hf' H' g q => ⟨b, rfl, hk b r2 am2 Hf' H' ((p1.trans p2).trans g.stp) (S2.grow g) q⟩
theorem se_cmp {op : CmpOp} {g : GB} (o : OpB X (compareOp op) g) (ha : SE X W a wa) (hb : SE X W b wb) (hm : behindInMarks op b = false := by rfl) : SE X W (.Compare a [op] [b] pos) (wCmp g wa wb) := by
  obtain ⟨r, ho, hr⟩ := o
  exact peI (pe_cmpR ho ha hb hm) fun s H Q h => tCmp_of hr h
theorem st_cmp {op : CmpOp} {g : GB} (o : OpB X (compareOp op) g) (ha : SE X W a wa) (hb : SE X W b wb) (hm : behindInMarks op b = false := by rfl) : ST X W (.Compare a [op] [b] pos) (wCmpT g wa wb) := by
  obtain ⟨r, ho, hr⟩ := o
  exact ptI (pt_cmpR ho ha hb hm) fun s H Q h => tCmpT_of hr h
/-- a < b < c -/
def wChainT (g g' : GB) (wa wb wc : WE) : WT := fun r k x => wa r (fun a r1 => wb r1 (fun b r2 => dref a r2 fun da => dref b r2 fun db => g da db fun d => match d with
  | true => wc r2 (fun c r3 => dref b r3 fun db => dref c r3 fun dc => g' db dc fun d => k d r3) x
  | false => k false r2) x) x
def wChain (g g' : GB) (wa wb wc : WE) : WE := fun r k x => wChainT g g' wa wb wc r (fun b r1 => k (.d (.bool b)) r1) x
end

/-! ### tests -/
def truD (d : D) : Option Bool := match d with
  | .none => some false
  | .bool b => some b
  | .int i => some (i != 0)
  | .str s => if s.length ≤ sizeLine then some ((s.length : Int) != 0) else none
  | .list ds => some (!ds.isEmpty)
  | .tuple ds => some (!ds.isEmpty)
  | .dict _ => none
def wTru (w : WE) : WT := fun r k x => w r (fun y r1 => dref y r1 fun d => match truD d with
  | some b => k b r1
  | none => False) x
theorem truV_of {K : PySem.W.Frag} {Hf H : Hp} {v : V} {d : D} {b : Bool} (e : Ex Hf H) (h : RpH K Hf H v d) (q : truD d = some b) : TruV K v H b := by
  cases d with
  | none =>
    rw [h.non]
    exact (Option.some.inj q).symm
  | bool c =>
    rw [h.bl]
    exact (Option.some.inj q).symm
  | int i =>
    rw [h.int]
    exact (Option.some.inj q).symm
  | str s =>
    rw [h.str]
    have q' : (if s.length ≤ sizeLine then some ((s.length : Int) != 0) else none) = some b := q
    by_cases hs : s.length ≤ sizeLine
    · rw [if_pos hs] at q'
      exact ⟨hs, (Option.some.inj q').symm⟩
    · rw [if_neg hs] at q'
      cases q'
  | list ds =>
    obtain ⟨a, xs, rfl, h1, h2⟩ := h.list e
    refine .inl ⟨xs, Evl.sq_of h1, ?_⟩
    have := Option.some.inj q
    rw [← this]
    cases h2 <;> rfl
  | tuple ds =>
    obtain ⟨a, xs, rfl, h1, h2⟩ := h.tup
    refine .inr (.inl ⟨xs, Evl.ex_t e h1, ?_⟩)
    have := Option.some.inj q
    rw [← this]
    cases h2 <;> rfl
  | dict es => cases q
section
variable {X : Cx} {W : WX} {pos : Pos} {a b c : Expr} {wa wb wc : WE} {ta tb : WT} {rest : List Expr}
theorem tru_of {s : L2.St} {H : Hp} {Q : Bool → Hp → Prop} (h : tT X.K X.mg W (wTru wa) s H Q) : tE X.K X.mg W wa s H fun x H' => ∃ k, TruV X.K x H' k ∧ Q k H' := by
  obtain ⟨am, Hf, e, k, x, S, hw, hk, hx⟩ := h
  refine ⟨am, Hf, e, _, x, S, hw, fun ya r1 am1 Hf1 H1 va p1 S1 ra q1 => ?_, hx⟩
  obtain ⟨da, rda, q3⟩ := dref_ok S1 ra q1
  cases q : truD da with
  | none =>
    rw [q] at q3
    exact q3.elim
  | some b =>
    rw [q] at q3
    exact ⟨b, truV_of S1.le rda q, hk b r1 am1 Hf1 H1 p1 S1 q3⟩
/-- any expression but not, and, or, comparisons, as a test -/
theorem st_tru (ha : SE X W a wa) (he : ∀ whole, isTrue a X.env whole = (do let v ← whole; standAt a.pos; holding [v] (truthy v)) := by intro _; rfl) : ST X W a (wTru wa) :=
  ptI (pt_truth ha he) fun s H Q h => tru_of h
/-! ### not, and, or -/
def wNotT (ta : WT) : WT := fun r k x => ta r (fun b r1 => k (!b) r1) x
def wAndT (ta tb : WT) : WT := fun r k x => ta r (fun b r1 => match b with
  | true => tb r1 k x
  | false => k false r1) x
def wOrT (ta tb : WT) : WT := fun r k x => ta r (fun b r1 => match b with
  | true => k true r1
  | false => tb r1 k x) x
theorem st_not (ha : ST X W a ta) : ST X W (.UnaryOp .Not a pos) (wNotT ta) := by
  refine ptI (pt_not ha) fun s H Q h => ?_
  obtain ⟨am, Hf, e, k, x, S, hw, hk, hx⟩ := h
  exact ⟨am, Hf, e, _, x, S, hw, fun b r' am' Hf' H' p S' q => hk (!b) r' am' Hf' H' p S' q, hx⟩
theorem sw_and1 (ha : ST X W a ta) : SW X W (.BoolOp .And [a] pos) ta := pw_and1 ha
theorem sw_or1 (ha : ST X W a ta) : SW X W (.BoolOp .Or [a] pos) ta := pw_or1 ha
theorem sw_and (ha : ST X W a ta) (hb : SW X W (.BoolOp .And (b :: rest) pos) tb) : SW X W (.BoolOp .And (a :: b :: rest) pos) (wAndT ta tb) := by
  refine pwI (pw_and ha hb) fun s H Q h => ?_
  obtain ⟨am, Hf, e, k, x, S, hw, hk, hx⟩ := h
  refine ⟨am, Hf, e, _, x, S, hw, fun b r1 am1 Hf1 H1 p1 S1 q => ?_, hx⟩
  cases b with
  | true =>
    show tT X.K X.mg W tb s H1 Q
    exact ⟨am1, Hf1, r1, k, x, S1, q, fun b r' am' Hf' H' p S' q => hk b r' am' Hf' H' (p1.trans p) S' q, hx.next p1⟩
  | false =>
    show Q false H1
    exact hk false r1 am1 Hf1 H1 p1 S1 q
theorem sw_or (ha : ST X W a ta) (hb : SW X W (.BoolOp .Or (b :: rest) pos) tb) : SW X W (.BoolOp .Or (a :: b :: rest) pos) (wOrT ta tb) := by
  refine pwI (pw_or ha hb) fun s H Q h => ?_
  obtain ⟨am, Hf, e, k, x, S, hw, hk, hx⟩ := h
  refine ⟨am, Hf, e, _, x, S, hw, fun b r1 am1 Hf1 H1 p1 S1 q => ?_, hx⟩
  cases b with
  | true =>
    show Q true H1
    exact hk true r1 am1 Hf1 H1 p1 S1 q
  | false =>
    show tT X.K X.mg W tb s H1 Q
    exact ⟨am1, Hf1, r1, k, x, S1, q, fun b r' am' Hf' H' p S' q => hk b r' am' Hf' H' (p1.trans p) S' q, hx.next p1⟩
theorem st_w (h : SW X W a ta) : ST X W a ta := h.pt
/-- as values: all but the last are truth values -/
def isB (y : R) (k : Bool → Prop) : Prop := match y with
  | .d (.bool b) => k b
  | _ => False
def wAndV (wa wb : WE) : WE := fun r k x => wa r (fun y r1 => isB y fun b => match b with
  | true => wb r1 k x
  | false => k (.d (.bool false)) r1) x
def wOrV (wa wb : WE) : WE := fun r k x => wa r (fun y r1 => isB y fun b => match b with
  | true => k (.d (.bool true)) r1
  | false => wb r1 k x) x
def wNotV (wa : WE) : WE := fun r k x => wa r (fun y r1 => isB y fun b => k (.d (.bool (!b))) r1) x
theorem isB_ok {K : PySem.W.Frag} {mg : Str → Option Value} {am : Am} {Hf : Hp} {v : V} {y : R} {k : Bool → Prop} (r : RelR K mg am Hf v y) (h : isB y k) : ∃ b, v = .bl b ∧ k b := by
  cases y with
  | d z =>
    cases z with
    | bool b =>
      cases r
      exact ⟨b, rfl, h⟩
    | _ => exact h.elim
  | _ => exact h.elim
theorem se_one {op} (h : SE X W a wa) : SE X W (.BoolOp op [a] pos) wa := pe_one h
theorem se_and (ha : SE X W a wa) (hb : SE X W (.BoolOp .And (b :: rest) pos) wb) : SE X W (.BoolOp .And (a :: b :: rest) pos) (wAndV wa wb) := by
  refine peI (pe_and ha hb) fun s H Q h => ?_
  obtain ⟨am, Hf, e, k, x, S, hw, hk, hx⟩ := h
  refine ⟨am, Hf, e, _, x, S, hw, fun y r1 am1 Hf1 H1 v p1 S1 rr q => ?_, hx⟩
  obtain ⟨c, rfl, q⟩ := isB_ok rr q
  refine ⟨c, rfl, ?_⟩
  cases c with
  | true =>
    show tE X.K X.mg W wb s H1 Q
    exact ⟨am1, Hf1, r1, k, x, S1, q, fun y r' am' Hf' H' v p S' rr q => hk y r' am' Hf' H' v (p1.trans p) S' rr q, hx.next p1⟩
  | false =>
    show Q (.bl false) H1
    exact hk _ r1 am1 Hf1 H1 _ p1 S1 relB q
theorem se_or (ha : SE X W a wa) (hb : SE X W (.BoolOp .Or (b :: rest) pos) wb) : SE X W (.BoolOp .Or (a :: b :: rest) pos) (wOrV wa wb) := by
  refine peI (pe_or ha hb) fun s H Q h => ?_
  obtain ⟨am, Hf, e, k, x, S, hw, hk, hx⟩ := h
  refine ⟨am, Hf, e, _, x, S, hw, fun y r1 am1 Hf1 H1 v p1 S1 rr q => ?_, hx⟩
  obtain ⟨c, rfl, q⟩ := isB_ok rr q
  refine ⟨c, rfl, ?_⟩
  cases c with
  | true =>
    show Q (.bl true) H1
    exact hk _ r1 am1 Hf1 H1 _ p1 S1 relB q
  | false =>
    show tE X.K X.mg W wb s H1 Q
    exact ⟨am1, Hf1, r1, k, x, S1, q, fun y r' am' Hf' H' v p S' rr q => hk y r' am' Hf' H' v (p1.trans p) S' rr q, hx.next p1⟩
def wIf (t : WT) (wa wb : WE) : WE := fun r k x => t r (fun b r1 => match b with
  | true => wa r1 k x
  | false => wb r1 k x) x
theorem se_if (hc : ST X W c ta) (ha : SE X W a wa) (hb : SE X W b wb) : SE X W (.IfExp c a b pos) (wIf ta wa wb) := by
  refine peI (pe_ifExp hc ha hb) fun s H Q h => ?_
  obtain ⟨am, Hf, e, k, x, S, hw, hk, hx⟩ := h
  refine ⟨am, Hf, e, _, x, S, hw, fun c r1 am1 Hf1 H1 p1 S1 q => ?_, hx⟩
  cases c with
  | true =>
    show tE X.K X.mg W wa s H1 Q
    exact ⟨am1, Hf1, r1, k, x, S1, q, fun y r' am' Hf' H' v p S' rr q => hk y r' am' Hf' H' v (p1.trans p) S' rr q, hx.next p1⟩
  | false =>
    show tE X.K X.mg W wb s H1 Q
    exact ⟨am1, Hf1, r1, k, x, S1, q, fun y r' am' Hf' H' v p S' rr q => hk y r' am' Hf' H' v (p1.trans p) S' rr q, hx.next p1⟩
end

/-! ### arguments, displays -/
def wNil : WA := fun r k _ => k [] r
def wCons (wa : WE) (wr : WA) : WA := fun r k x => wa r (fun y r1 => wr r1 (fun ys r2 => k (y :: ys) r2) x) x
def frzs : List R → Env → (List D → Env → Prop) → Prop
  | [], r, k => k [] r
  | y :: ys, r, k => frz y r fun d r1 => frzs ys r1 fun ds r2 => k (d :: ds) r2
def drefs : List R → Env → (List D → Prop) → Prop
  | [], _, k => k []
  | y :: ys, r, k => dref y r fun d => drefs ys r fun ds => k (d :: ds)
end Dl

/-! the data layer, part 3: arguments, displays, calls of built-ins, methods, subscripts, slices -/
namespace Dl
open PySem
open PySem.Spec
open PyProof.Rows
open L2
open Evl (Ex)

section
variable {K : PySem.W.Frag} {mg : Str → Option Value} {am : Am} {Hf H : Hp} {s : L2.St} {r : Env}
theorem drefs_ok (S : Sim K mg am Hf H s r) : ∀ {vs : List V} {ys : List R} {k : List D → Prop}, Paired (RelR K mg am Hf) vs ys → drefs ys r k → ∃ ds, RpHs K Hf H vs ds ∧ k ds
  | _, _, _, .nil, q => ⟨[], .nil, q⟩
  | _, _, _, .cons h t, q => by
    obtain ⟨d, h1, h2⟩ := dref_ok S h q
    obtain ⟨ds, h3, h4⟩ := drefs_ok S t h2
    exact ⟨d :: ds, .cons h1 h3, h4⟩
theorem PairR.mono {am1 : Am} {Hf1 H1 : Hp} (q : Stp am Hf H am1 Hf1 H1) : ∀ {vs : List V} {ys : List R}, Paired (RelR K mg am Hf) vs ys → Paired (RelR K mg am1 Hf1) vs ys
  | _, _, .nil => .nil
  | _, _, .cons h t => .cons (h.mono q) (PairR.mono q t)
/-- a value that stood for an entry stands for the data that the entry has become -/
theorem frzs_ok : ∀ {vs : List V} {ys : List R} {am : Am} {Hf H : Hp} {r : Env} {k : List D → Env → Prop}, Sim K mg am Hf H s r → Paired (RelR K mg am Hf) vs ys → frzs ys r k →
    ∃ ds r' Hf', Stp am Hf H am Hf' H ∧ Sim K mg am Hf' H s r' ∧ RpA K Hf' vs ds ∧ k ds r'
  | _, _, _, Hf, _, r, _, S, .nil, q => ⟨[], r, Hf, .refl, S, .nil, q⟩
  | _, _, am, Hf, H, r, k, S, .cons h t, q => by
    obtain ⟨d, r1, Hf1, p1, S1, h1, q1⟩ := frz_ok S h q
    obtain ⟨ds, r2, Hf2, p2, S2, h2, q2⟩ := frzs_ok S1 (PairR.mono p1 t) q1
    exact ⟨d :: ds, r2, Hf2, p1.trans p2, S2, .cons (h1.mono p2.le) h2, q2⟩
end
section
variable {X : Cx} {W : WX} {pos : Pos} {e : Expr} {es : List Expr} {we : WE} {wr : WA}
theorem sa_nil : SA X W [] wNil := by
  refine paI pa_nil fun s H Q h => ?_
  obtain ⟨am, Hf, r, k, x, S, hw, hk, hx⟩ := h
  exact hk [] r am Hf H [] .refl S .nil hw
theorem sa_cons (ha : SE X W e we) (hr : SA X W es wr) (hs : starEach (e :: es) X.env = (false, eval e X.env) :: starEach es X.env := by rfl) : SA X W (e :: es) (wCons we wr) := by
  refine paI (pa_cons ha hr hs) fun s H Q h => ?_
  obtain ⟨am, Hf, r, k, x, S, hw, hk, hx⟩ := h
  refine ⟨am, Hf, r, _, x, S, hw, fun y r1 am1 Hf1 H1 v p1 S1 rr q => ?_, hx⟩
  refine ⟨am1, Hf1, r1, _, x, S1, q, fun ys r2 am2 Hf2 H2 vs p2 S2 rs q2 => ?_, hx.next p1⟩
  exact hk (y :: ys) r2 am2 Hf2 H2 (v :: vs) (p1.trans p2) S2 (.cons (rr.mono p2) rs) q2
/-! ### a new list: as data, as a list of the store -/
def wDat (w : WL) : WE := fun r k x => w r (fun ds r1 => k (.d (.list ds)) r1) x
def wLoc (w : WL) : WE := fun r k x => w r (fun ds r1 => k (.l r1.st.length) ⟨r1.sl, r1.st ++ [some ds]⟩) x
theorem dat_of {wl : WL} {s : L2.St} {H : Hp} {Q : VK} (q : tE X.K X.mg W (wDat wl) s H Q) : tL X.K X.mg W wl s H Q := by
  obtain ⟨am, Hf, r, k, x, S, hw, hk, hx⟩ := q
  refine ⟨am, Hf, r, _, x, S, hw, fun ds r1 am1 Hf1 H1 a xs p1 S1 ha hf hn h0 ra q1 => ?_, hx⟩
  have lf : Ex Hf1 (upd Hf1 a (.lst xs)) := Evl.Ex.new hf
  refine hk (.d (.list ds)) r1 am1 (upd Hf1 a (.lst xs)) H1 _ ⟨p1.pre, p1.nw, p1.le.trans lf, p1.old, fun b o z => ?_, p1.kp⟩ ⟨fun b o z => ?_, S1.len, S1.nd, S1.tr, fun n b kk es h1 h2 => ?_, S1.ou.mv lf (fun _ _ _ _ => rfl) (fun _ z => z), fun i y h1 => ?_, S1.sz⟩ (Rp.lst upd_same (ra.mono lf)) q1
  · by_cases hb : b = a
    · rw [hb]
      exact .inr (.inl h0)
    · rw [upd_ne hb] at z
      exact p1.fz b o z
  · by_cases hb : b = a
    · rw [hb, upd_same] at z
      rw [hb, ha]
      exact z
    · rw [upd_ne hb] at z
      exact S1.le b o z
  · obtain ⟨g0, ys, g1, g2⟩ := S1.cell n b kk es h1 h2
    have hba : b ≠ a := fun z => hn (z ▸ mem_ad h1)
    exact ⟨by rw [upd_ne hba]; exact g0, ys, g1, CellR.mv lf (fun _ z => z) (fun c hc h0 => by have ne : c ≠ a := (fun z => hn (z ▸ mem_ow hc)); rw [upd_ne ne]; exact h0) (fun _ _ _ => rfl) g2⟩
  · obtain ⟨v, g1, g2⟩ := S1.sl i y h1
    exact ⟨v, g1, RelR.grow lf (fun _ _ z => z) g2⟩
theorem se_dat {wl : WL} (h : SL X W e wl) : SE X W e (wDat wl) := peI h fun _ _ _ => dat_of
theorem loc_of {wl : WL} {s : L2.St} {H : Hp} {Q : VK} (q : tE X.K X.mg W (wLoc wl) s H Q) : tL X.K X.mg W wl s H Q := by
  obtain ⟨am, Hf, r, k, x, S, hw, hk, hx⟩ := q
  refine ⟨am, Hf, r, _, x, S, hw, fun ds r1 am1 Hf1 H1 a xs p1 S1 ha hf hn h0 ra q1 => ?_, hx⟩
  have hl : am1.pl.length = r1.st.length := S1.len.symm
  have hat : (am1.add a .lst).pl[r1.st.length]? = some (a, Kd.lst) := by
    show (am1.pl ++ [(a, Kd.lst)])[r1.st.length]? = _
    rw [← hl, List.getElem?_append_right (Nat.le_refl _), Nat.sub_self]
    rfl
  have old : ∀ {n : Nat} {b : Addr × Kd}, am1.pl[n]? = some b → (am1.add a .lst).pl[n]? = some b := fun h => by
    show (am1.pl ++ [(a, Kd.lst)])[_]? = _
    rw [List.getElem?_append_left (List.getElem?_eq_some_iff.mp h).1]
    exact h
  refine hk (.l r1.st.length) ⟨r1.sl, r1.st ++ [some ds]⟩ (am1.add a .lst) Hf1 H1 _ ⟨?_, fun b hb => ?_, p1.le, p1.old, p1.fz, p1.kp⟩ ⟨S1.le, ?_, ?_, fun b hb => ?_, fun n b kk es h1 h2 => ?_, S1.ou.add S1.len a (fun _ z => nomatch z), fun i y h1 => ?_, S1.sz⟩ ⟨a, rfl, hat⟩ q1
  · obtain ⟨⟨t, et⟩, eo⟩ := p1.pre
    exact ⟨⟨t ++ [(a, Kd.lst)], by show am1.pl ++ _ = _; rw [et, List.append_assoc]⟩, eo⟩
  · rcases ad_add.mp hb with hb | hb
    · exact p1.nw b hb
    · rw [hb]
      exact .inr h0
  · show (r1.st ++ [some ds]).length = (am1.pl ++ [(a, Kd.lst)]).length
    rw [List.length_append, List.length_append, hl]
    rfl
  · exact nd_add S1.nd hn
  · rcases ad_add.mp hb with hb | hb
    · exact S1.tr b hb
    · rw [hb, ha]
      simp
  · have h2' : (r1.st ++ [some ds])[n]? = some (some es) := h2
    by_cases hlt : n < r1.st.length
    · rw [List.getElem?_append_left hlt] at h2'
      have h1 : (am1.pl ++ [(a, Kd.lst)])[n]? = some (b, kk) := h1
      rw [List.getElem?_append_left (by rw [hl]; exact hlt)] at h1
      obtain ⟨g0, o, g1, g2⟩ := S1.cell n b kk es h1 h2'
      exact ⟨g0, o, g1, g2⟩
    · have hn' : n < (r1.st ++ [some ds]).length := (List.getElem?_eq_some_iff.mp h2').1
      rw [List.length_append] at hn'
      have e : n = r1.st.length := by
        have : ([some ds] : Sto).length = 1 := rfl
        omega
      rw [e, List.getElem?_append_right (Nat.le_refl _), Nat.sub_self] at h2'
      have e2 : ds = es := by simpa using h2'
      rw [e, hat] at h1
      obtain ⟨e3, e4⟩ := Prod.mk.inj (Option.some.inj h1)
      rw [← e2, ← e3, ← e4]
      exact ⟨hf, _, ha, xs, rfl, ra⟩
  · obtain ⟨v, g1, g2⟩ := S1.sl i y h1
    exact ⟨v, g1, RelR.grow (Evl.Ex.refl _) (fun _ _ z => old z) g2⟩
theorem se_loc {wl : WL} (h : SL X W e wl) : SE X W e (wLoc wl) := peI h fun _ _ _ => loc_of
/-! ### displays -/
def wTup (ws : WA) : WE := fun r k x => ws r (fun ys r1 => ys.length ≤ sizeLine ∧ frzs ys r1 fun ds r2 => k (.d (.tuple ds)) r2) x
def wLst (ws : WA) : WL := fun r k x => ws r (fun ys r1 => ys.length ≤ sizeLine ∧ frzs ys r1 fun ds r2 => k ds r2) x
theorem pairLen {α β : Type} {F : α → β → Prop} : ∀ {xs : List α} {ys : List β}, Paired F xs ys → xs.length = ys.length
  | _, _, .nil => rfl
  | _, _, .cons _ t => congrArg (· + 1) (pairLen t)
theorem se_tup {x1} (h : SA X W es wr) : SE X W (.Tuple es x1 pos) (wTup wr) := by
  refine peI (pe_tup h) fun s H Q q => ?_
  obtain ⟨am, Hf, r, k, x, S, hw, hk, hx⟩ := q
  refine ⟨am, Hf, r, _, x, S, hw, fun ys r1 am1 Hf1 H1 vs p1 S1 rs q1 => ?_, hx⟩
  obtain ⟨hz, q1⟩ := q1
  obtain ⟨ds, r2, Hf2, p2, S2, ra, q2⟩ := frzs_ok S1 rs q1
  refine ⟨by rw [pairLen rs]; exact hz, fun p hp => ?_⟩
  have g : Grow Hf2 H1 (upd Hf2 p (.tup vs)) (upd H1 p (.tup vs)) := .new S2.le hp
  exact hk (.d (.tuple ds)) r2 am1 _ _ _ ((p1.trans p2).trans g.stp) (S2.grow g) (Rp.tup (Evl.st_of upd_same) (ra.mono g.lf)) q2
theorem sl_lst (h : SA X W es wr) : SL X W (.List es pos) (wLst wr) := by
  refine peI (pe_lst h) fun s H Q q => ?_
  obtain ⟨am, Hf, r, k, x, S, hw, hk, hx⟩ := q
  refine ⟨am, Hf, r, _, x, S, hw, fun ys r1 am1 Hf1 H1 vs p1 S1 rs q1 => ?_, hx⟩
  obtain ⟨hz, q1⟩ := q1
  obtain ⟨ds, r2, Hf2, p2, S2, ra, q2⟩ := frzs_ok S1 rs q1
  refine ⟨by rw [pairLen rs]; exact hz, fun p hp => ?_⟩
  have g : Grow Hf2 H1 Hf2 (upd H1 p (.lst vs)) := .lost S2.le hp
  refine hk ds r2 am1 Hf2 _ p vs ((p1.trans p2).trans g.stp) (S2.grow g) upd_same (Evl.fresh_back S2.le hp) (fun hm => S2.tr p hm hp) ?_ ra q2
  cases z : H p with
  | none => rfl
  | some o => exact absurd hp (p1.kp p (by rw [z]; simp))
end

/-! ### a new list by values -/
abbrev GL2 := D → D → (List D → Prop) → Prop
abbrev GLA := List D → (List D → Prop) → Prop
def FolL (K : PySem.W.Frag) (Hf H : Hp) (k : List D → Prop) (Q : VK) : Prop := ∀ p xs ds Hf' H', Grow Hf H Hf' H' → H' p = none → RpA K Hf' xs ds → k ds → Q (.ref p) (upd H' p (.lst xs))
def OpL2 (X : Cx) (f : Value → Value → Sem Value) (g : GL2) : Prop := ∃ r, OpR X f r ∧ ∀ x y Hf H dx dy k Q, Ex Hf H → RpH X.K Hf H x dx → RpH X.K Hf H y dy → g dx dy k → FolL X.K Hf H k Q → r x y H Q
section
variable {K : PySem.W.Frag} {mg : Str → Option Value} {am am0 : Am} {Hf Hf0 H H0 : Hp} {s : L2.St} {r : Env}
theorem folL_at {k : List D → Env → Prop} {Q : VK} (S : Sim K mg am Hf H s r) (p0 : Stp am0 Hf0 H0 am Hf H)
    (hk : ∀ ds r' am' Hf' H' a xs, Stp am0 Hf0 H0 am' Hf' H' → Sim K mg am' Hf' H' s r' → H' a = some (.lst xs) → Hf' a = none → a ∉ ad am' → H0 a = none → RpA K Hf' xs ds → k ds r' → Q (.ref a) H') : FolL K Hf H (fun ds => k ds r) Q := fun p xs ds Hf' H' g hp ra q => by
  have S1 := S.grow g
  have g2 : Grow Hf' H' Hf' (upd H' p (.lst xs)) := .lost g.ff hp
  refine hk ds r am Hf' _ p xs ((p0.trans g.stp).trans g2.stp) (S1.grow g2) upd_same (Evl.fresh_back g.ff hp) (fun hm => S1.tr p hm hp) ?_ ra q
  cases z : H0 p with
  | none => rfl
  | some o => exact absurd hp ((p0.trans g.stp).kp p (by rw [z]; simp))
end
def wOpL (g : GL2) (wa wb : WE) : WL := fun r k x => wa r (fun a r1 => wb r1 (fun b r2 => dref a r2 fun da => dref b r2 fun db => g da db fun d => k d r2) x) x
/-- a call of a built-in by its name -/
def wB (g : GA) (ws : WA) : WE := fun r k x => ws r (fun ys r1 => drefs ys r1 fun ds => g ds fun d => k (.d d) r1) x
def wBL (g : GLA) (ws : WA) : WL := fun r k x => ws r (fun ys r1 => drefs ys r1 fun ds => g ds fun d => k d r1) x
section
variable {X : Cx} {W : WX} {pos p : Pos} {a b e : Expr} {es : List Expr} {wa wb : WE} {wr : WA} {id T : String} {n : Str}
theorem sl_op {op : Operator} {g : GL2} (o : OpL2 X (binaryOp op) g) (ha : SE X W a wa) (hb : SE X W b wb) : SL X W (.BinOp a op b pos) (wOpL g wa wb) := by
  obtain ⟨rr, ho, hr⟩ := o
  refine peI (pe_op ho ha hb) fun s H Q h => ?_
  obtain ⟨am, Hf, e, k, x, S, hw, hk, hx⟩ := h
  refine ⟨am, Hf, e, _, x, S, hw, fun ya r1 am1 Hf1 H1 va p1 S1 ra q1 => ?_, hx⟩
  refine ⟨am1, Hf1, r1, _, x, S1, q1, fun yb r2 am2 Hf2 H2 vb p2 S2 rb q2 => ?_, hx.next p1⟩
  obtain ⟨da, rda, q3⟩ := dref_ok S2 (ra.mono p2) q2
  obtain ⟨db, rdb, q4⟩ := dref_ok S2 rb q3
  exact hr _ _ _ _ _ _ _ _ S2.le rda rdb q4 (folL_at S2 (p1.trans p2) hk)
theorem tB_of {rc : List V → Hp → VK → Prop} {g : GA} {s : L2.St} {H : Hp} {Q : VK} (hr : ∀ xs Hf H ds k Q, Ex Hf H → RpHs X.K Hf H xs ds → g ds k → Fol X.K Hf H k Q → rc xs H Q) (h : tE X.K X.mg W (wB g wr) s H Q) : tCB rc (tA X.K X.mg W wr) s H Q := by
  obtain ⟨am, Hf, e, k, x, S, hw, hk, hx⟩ := h
  refine ⟨am, Hf, e, _, x, S, hw, fun ys r1 am1 Hf1 H1 vs p1 S1 rs q1 => ?_, hx⟩
  obtain ⟨ds, rds, q3⟩ := drefs_ok S1 rs q1
  exact hr _ _ _ _ _ _ S1.le rds q3 (fol_of S1 fun y r' am' Hf' H' v p S' rr q => hk y r' am' Hf' H' v (p1.trans p) S' rr q)
theorem se_blt {g : GA} (hv : bootBuiltins n = some (.builtin id)) (o : OpC X (.builtin id) g) (hm : X.mg n = none) (ha : SA X W (e :: es) wr) (hg : Gl X n := by rfl) (hn : n ≠ "__name__" := by decide) (hdb : (n == ("__debug__" : Str)) = false := by decide)
    (he : starEach (e :: es) X.env = (false, eval e X.env) :: starEach es X.env := by rfl) (hpl : (backTo pos (starEach es X.env)).any (·.1) = false := by rfl) : SE X W (.Call (.Name n p) (e :: es) [] pos) (wB g wr) := by
  obtain ⟨rc, hc, hr⟩ := o
  exact peI (pe_callB hc hg hm hv ha hn hdb he hpl) fun s H Q h => tB_of hr h
theorem se_bty {g : GA} (hv : bootBuiltins n = some (.type T)) (o : OpC X (.type T) g) (hm : X.mg n = none) (ha : SA X W (e :: es) wr) (hg : Gl X n := by rfl) (hn : n ≠ "__name__" := by decide) (hdb : (n == ("__debug__" : Str)) = false := by decide)
    (he : starEach (e :: es) X.env = (false, eval e X.env) :: starEach es X.env := by rfl) (hpl : (backTo pos (starEach es X.env)).any (·.1) = false := by rfl) : SE X W (.Call (.Name n p) (e :: es) [] pos) (wB g wr) := by
  obtain ⟨rc, hc, hr⟩ := o
  exact peI (pe_callTy hc hg hm hv ha hn hdb he hpl) fun s H Q h => tB_of hr h
/-! ### subscripts, slices -/
def OpI (X : Cx) (g : G2) : Prop := ∃ r, IxR X r ∧ ∀ x y Hf H dx dy k Q, Ex Hf H → RpH X.K Hf H x dx → RpH X.K Hf H y dy → g dx dy k → Fol X.K Hf H k Q → r x y H Q
theorem se_ix {g : G2} (o : OpI X g) (ha : SE X W a wa) (hb : SE X W b wb) (hs : PlainIx b := by intro _ _; rfl) : SE X W (.Subscript a b pos) (wOp2 g wa wb) := by
  obtain ⟨r, ho, hr⟩ := o
  exact peI (pe_ix ho ha hb hs) fun s H Q h => tOp_of hr h
abbrev WO := Env → (Option Int → Env → Prop) → XQ → Prop
def tO (K : PySem.W.Frag) (mg : Str → Option Value) (W : WX) (w : WO) : TO := fun s H Q => ∃ am Hf r k x, Sim K mg am Hf H s r ∧ w r k x ∧ (∀ o r' am' Hf' H', Stp am Hf H am' Hf' H' → Sim K mg am' Hf' H' s r' → k o r' → Q o H') ∧ XC K mg W x am Hf H s
abbrev SO (X : Cx) (W : WX) (e : Option Expr) (w : WO) : Prop := PO X e (tO X.K X.mg W w)
def wNo : WO := fun r k _ => k none r
def isI (y : R) (k : Int → Prop) : Prop := match y with
  | .d (.int i) => k i
  | _ => False
def wPart (we : WE) : WO := fun r k x => we r (fun y r1 => isI y fun i => k (some i) r1) x
theorem isI_ok {K : PySem.W.Frag} {mg : Str → Option Value} {am : Am} {Hf : Hp} {v : V} {y : R} {k : Int → Prop} (r : RelR K mg am Hf v y) (h : isI y k) : ∃ b, v = .int b ∧ k b := by
  cases y with
  | d z =>
    cases z with
    | int b =>
      cases r
      exact ⟨b, rfl, h⟩
    | _ => exact h.elim
  | _ => exact h.elim
theorem so_no : SO X W none wNo := ⟨fun pins s σ H Q I h => by
  obtain ⟨am, Hf, r, k, x, S, hw, hk, hx⟩ := h
  exact po_none.run pins s σ H Q I (hk none r am Hf H .refl S hw)⟩
theorem so_some (h : SE X W e wa) : SO X W (some e) (wPart wa) := ⟨fun pins s σ H Q I q => by
  obtain ⟨am, Hf, r, k, x, S, hw, hk, hx⟩ := q
  refine (po_some h).run pins s σ H Q I ⟨am, Hf, r, _, x, S, hw, fun y r1 am1 Hf1 H1 v p1 S1 rr q1 => ?_, hx⟩
  obtain ⟨i, rfl, q1⟩ := isI_ok rr q1
  exact ⟨i, rfl, hk (some i) r1 am1 Hf1 H1 p1 S1 q1⟩⟩
abbrev GS := D → Option Int → Option Int → (D → Prop) → Prop
abbrev GSL := D → Option Int → Option Int → (List D → Prop) → Prop
def OpS (X : Cx) (g : GS) : Prop := ∃ r, SlR X r ∧ ∀ x lo hi Hf H dx k Q, Ex Hf H → RpH X.K Hf H x dx → g dx lo hi k → Fol X.K Hf H k Q → r x lo hi H Q
def wSl (g : GS) (wa : WE) (wl wh : WO) : WE := fun r k x => wa r (fun a r1 => wl r1 (fun lo r2 => wh r2 (fun hi r3 => dref a r3 fun da => g da lo hi fun d => k (.d d) r3) x) x) x
def wSlL (g : GSL) (wa : WE) (wl wh : WO) : WL := fun r k x => wa r (fun a r1 => wl r1 (fun lo r2 => wh r2 (fun hi r3 => dref a r3 fun da => g da lo hi fun d => k d r3) x) x) x
variable {lo hi : Option Expr} {wl wh : WO} {p2 : Pos}
theorem se_sl {g : GS} (o : OpS X g) (ha : SE X W a wa) (hl : SO X W lo wl) (hh : SO X W hi wh) : SE X W (.Subscript a (.Slice lo hi none p2) pos) (wSl g wa wl wh) := by
  obtain ⟨rr, ho, hr⟩ := o
  refine peI (pe_slice ho ha hl hh) fun s H Q h => ?_
  obtain ⟨am, Hf, e, k, x, S, hw, hk, hx⟩ := h
  refine ⟨am, Hf, e, _, x, S, hw, fun ya r1 am1 Hf1 H1 va p1 S1 ra q1 => ?_, hx⟩
  refine ⟨am1, Hf1, r1, _, x, S1, q1, fun o2 r2 am2 Hf2 H2 p2 S2 q2 => ?_, hx.next p1⟩
  refine ⟨am2, Hf2, r2, _, x, S2, q2, fun o3 r3 am3 Hf3 H3 p3 S3 q3 => ?_, hx.next (p1.trans p2)⟩
  obtain ⟨da, rda, q4⟩ := dref_ok S3 ((ra.mono p2).mono p3) q3
  exact hr _ _ _ _ _ _ _ _ S3.le rda q4 (fol_of S3 fun y r' am' Hf' H' v p S' rr q => hk y r' am' Hf' H' v (((p1.trans p2).trans p3).trans p) S' rr q)
theorem OpS.or {g g' : GS} (h : OpS X g) (h' : OpS X g') : OpS X fun x lo hi k => g x lo hi k ∨ g' x lo hi k := by
  obtain ⟨r, a, b⟩ := h
  obtain ⟨r', a', b'⟩ := h'
  exact ⟨_, a.or a', fun x lo hi Hf H dx k Q e rx q F => q.elim (fun q => .inl (b x lo hi Hf H dx k Q e rx q F)) fun q => .inr (b' x lo hi Hf H dx k Q e rx q F)⟩
theorem OpS.imp {g g' : GS} (h : OpS X g) (i : ∀ x lo hi k, g' x lo hi k → g x lo hi k) : OpS X g' := by
  obtain ⟨r, a, b⟩ := h
  exact ⟨r, a, fun x lo hi Hf H dx k Q e rx q F => b x lo hi Hf H dx k Q e rx (i _ _ _ _ q) F⟩
theorem OpI.or {g g' : G2} (h : OpI X g) (h' : OpI X g') : OpI X (g.or g') := by
  obtain ⟨r, a, b⟩ := h
  obtain ⟨r', a', b'⟩ := h'
  exact ⟨_, a.or a', fun x y Hf H dx dy k Q e rx ry q F => q.elim (fun q => .inl (b x y Hf H dx dy k Q e rx ry q F)) fun q => .inr (b' x y Hf H dx dy k Q e rx ry q F)⟩
theorem OpI.imp {g g' : G2} (h : OpI X g) (i : ∀ x y k, g' x y k → g x y k) : OpI X g' := by
  obtain ⟨r, a, b⟩ := h
  exact ⟨r, a, fun x y Hf H dx dy k Q e rx ry q F => b x y Hf H dx dy k Q e rx ry (i _ _ _ q) F⟩
end
end Dl

/-! the data layer, part 4: methods, statements, loops, comprehensions -/
namespace Dl
open PySem
open PySem.Spec
open PyProof.Rows
open L2
open Evl (Ex)

/-! ### methods that change nothing -/
abbrev GM := D → List D → (D → Prop) → Prop
abbrev GML := D → List D → (List D → Prop) → Prop
def OpM (X : Cx) (id : String) (g : GM) : Prop := ∃ r, MtR X id r ∧ ∀ x xs Hf H dx ds k Q, Ex Hf H → RpH X.K Hf H x dx → RpHs X.K Hf H xs ds → g dx ds k → Fol X.K Hf H k Q → r x xs H Q
def tyD (T : String) (d : D) : Prop := match d with
  | .str _ => T = "str"
  | .list _ => T = "list"
  | _ => False
theorem tyD_ok {K : PySem.W.Frag} {Hf H : Hp} {v : V} {d : D} {T : String} (e : Ex Hf H) (r : RpH K Hf H v d) (h : tyD T d) : tyV K T v H := by
  cases d with
  | str s =>
    rw [r.str]
    exact h
  | list ds =>
    obtain ⟨a, xs, rfl, h1, h2⟩ := r.list e
    exact .inl ⟨h, xs, Evl.sq_of h1⟩
  | _ => exact h.elim
def wM (T : String) (g : GM) (wa : WE) (ws : WA) : WE := fun r k x => wa r (fun a r1 => dref a r1 fun da => tyD T da ∧ ws r1 (fun ys r2 => dref a r2 fun da => drefs ys r2 fun ds => g da ds fun d => k (.d d) r2) x) x
def wML (T : String) (g : GML) (wa : WE) (ws : WA) : WL := fun r k x => wa r (fun a r1 => dref a r1 fun da => tyD T da ∧ ws r1 (fun ys r2 => dref a r2 fun da => drefs ys r2 fun ds => g da ds fun d => k d r2) x) x
def wM0 (T : String) (g : GM) (wa : WE) : WE := fun r k x => wa r (fun a r1 => dref a r1 fun da => tyD T da ∧ g da [] fun d => k (.d d) r1) x
section
variable {X : Cx} {W : WX} {pos apos cpos p : Pos} {o a b e : Expr} {es : List Expr} {wa wb we : WE} {wr : WA} {id T : String} {n name : Str}
theorem se_m {g : GM} (pa : PlainAttrs T) (slot : Slot T name id) (hty : typeOf (.builtin id) = pure (.type "method_descriptor")) (op : OpM X id g) (ho : SE X W o wa) (ha : SA X W (e :: es) wr)
    (hbase : attributeBase o name X.env (eval o X.env) = eval o X.env := by rfl)
    (hfew : ((backTo cpos (starEach (e :: es) X.env)).all (fun x => !x.1) && (backToKw cpos (keywordEach [] X.env)).all (fun x => x.1.isSome)
      && decide ((e :: es).length + ([] : List Keyword).length + (if ([] : List Keyword).isEmpty then 0 else 1) < 30)) = true := by rfl)
    (hline : (apos.endLine == cpos.line) = true := by rfl) (hs : starEach (e :: es) X.env = (false, eval e X.env) :: starEach es X.env := by rfl) (hplain : (backTo cpos (starEach es X.env)).any (·.1) = false := by rfl) :
    SE X W (.Call (.Attribute o name apos) (e :: es) [] cpos) (wM T g wa wr) := by
  obtain ⟨rm, hm, hr⟩ := op
  refine peI (pe_bm pa slot hty hm ho ha hbase hfew hline hs hplain) fun s H Q h => ?_
  obtain ⟨am, Hf, r, k, x, S, hw, hk, hx⟩ := h
  refine ⟨am, Hf, r, _, x, S, hw, fun y r1 am1 Hf1 H1 v p1 S1 rr q => ?_, hx⟩
  obtain ⟨d, rd, q1, q2⟩ := dref_ok S1 rr q
  refine ⟨tyD_ok S1.le rd q1, am1, Hf1, r1, _, x, S1, q2, fun ys r2 am2 Hf2 H2 vs p2 S2 rs q3 => ?_, hx.next p1⟩
  obtain ⟨d2, rd2, q4⟩ := dref_ok S2 (rr.mono p2) q3
  obtain ⟨ds, rds, q5⟩ := drefs_ok S2 rs q4
  exact hr _ _ _ _ _ _ _ _ S2.le rd2 rds q5 (fol_of S2 fun y r' am' Hf' H' v p S' rr q => hk y r' am' Hf' H' v ((p1.trans p2).trans p) S' rr q)
/-! ### methods that change a list of the store: the list, the arguments (frozen): the answer, the new list -/
abbrev GU := List D → List D → (D → List D → Prop) → Prop
def OpU (X : Cx) (id : String) (g : GU) : Prop := ∃ r, MtR X id r ∧ ∀ (a : Addr) (cur : List V) (xs : List V) Hf H dc ds k Q, Ex Hf H → H a = some (.lst cur) → RpA X.K Hf cur dc → RpA X.K Hf xs ds → g dc ds k →
  (∀ v d cur' dc', Rp X.K Hf v d → RpA X.K Hf cur' dc' → k d dc' → Q v (upd H a (.lst cur'))) → r (.ref a) xs H Q
def stPut (r : Env) (n : Nat) (ds : List D) : Env := ⟨r.sl, r.st.set n (some ds)⟩
def isL (y : R) (k : Nat → Prop) : Prop := match y with
  | .l n => k n
  | _ => False
def wU (g : GU) (wa : WE) (ws : WA) : WE := fun r k x => wa r (fun a r1 => isL a fun n => lstAt r1 n fun _ => ws r1 (fun ys r2 => frzs ys r2 fun ds r3 => lstAt r3 n fun cur => g cur ds fun d new => k (.d d) (stPut r3 n new)) x) x
def wU0 (g : GU) (wa : WE) : WE := fun r k x => wa r (fun a r1 => isL a fun n => lstAt r1 n fun cur => g cur [] fun d new => k (.d d) (stPut r1 n new)) x
end
section
variable {K : PySem.W.Frag} {mg : Str → Option Value} {am : Am} {Hf H : Hp} {s : L2.St} {r : Env} {n : Nat}
theorem lstAt_ok {k : List D → Prop} (h : lstAt r n k) : ∃ ds, r.st[n]? = some (some ds) ∧ k ds := by
  unfold lstAt at h
  cases e : r.st[n]? with
  | none => simp [e] at h
  | some o =>
    cases o with
    | none => simp [e] at h
    | some ds =>
      simp only [e] at h
      exact ⟨ds, rfl, h⟩
/-- a list of the store is written -/
theorem Sim.put (S : Sim K mg am Hf H s r) {a : Addr} {ds dc : List D} {xs : List V} (ha : am.pl[n]? = some (a, .lst)) (hd : r.st[n]? = some (some ds)) (ra : RpA K Hf xs dc) :
    Stp am Hf H am Hf (upd H a (.lst xs)) ∧ Sim K mg am Hf (upd H a (.lst xs)) s (stPut r n dc) := by
  obtain ⟨h0, ys, h1, _⟩ := S.live n a ds ha hd
  refine ⟨⟨⟨⟨[], by simp⟩, fun _ h => h⟩, fun _ h => .inl h, Evl.Ex.refl _, fun b o h hn => ?_, fun _ _ h => .inl h, fun b h => ?_⟩, fun b o h => ?_, ?_, S.nd, fun b hb => ?_, fun m b kk es g1 g2 => ?_, S.ou.mv (Evl.Ex.refl _) (fun m b cn hm => ?_) (fun _ z => Lv.set hd z), S.sl, S.sz⟩
  · have hb : b ≠ a := fun z => hn (z ▸ mem_ad ha)
    rw [upd_ne hb]
    exact h
  · by_cases hb : b = a
    · rw [hb, upd_same]
      simp
    · rw [upd_ne hb]
      exact h
  · have hb : b ≠ a := fun z => by
      rw [z, h0] at h
      cases h
    rw [upd_ne hb]
    exact S.le b o h
  · show (r.st.set n (some dc)).length = am.pl.length
    rw [List.length_set]
    exact S.len
  · by_cases hba : b = a
    · rw [hba, upd_same]
      simp
    · rw [upd_ne hba]
      exact S.tr b hb
  · have g2' : (r.st.set n (some dc))[m]? = some (some es) := g2
    by_cases hm : m = n
    · rw [hm, List.getElem?_set_self (List.getElem?_eq_some_iff.mp hd).1] at g2'
      have e1 : dc = es := by simpa using g2'
      rw [hm, ha] at g1
      obtain ⟨e2, e3⟩ := Prod.mk.inj (Option.some.inj g1)
      rw [← e1, ← e2, ← e3]
      exact ⟨h0, _, upd_same, xs, rfl, ra⟩
    · rw [List.getElem?_set_ne (Ne.symm hm)] at g2'
      obtain ⟨f0, ys, f1, f2⟩ := S.cell m b kk es g1 g2'
      have hba : b ≠ a := fun z => hm (by
        rw [z] at g1
        exact nd_ad S.nd g1 ha)
      exact ⟨f0, ys, by rw [upd_ne hba]; exact f1, CellR.mv (Evl.Ex.refl _) (fun _ z => z) (fun _ _ h => h) (fun c hc _ => upd_ne (nd_ow S.nd ha hc)) f2⟩
  · refine upd_ne fun z => ?_
    rw [z] at hm
    have := nd_ad S.nd hm ha
    rw [this, ha] at hm
    cases hm
end
section
variable {X : Cx} {W : WX} {pos apos cpos p : Pos} {o a b e : Expr} {es : List Expr} {wa wb we : WE} {wr : WA} {id T : String} {n name : Str}
theorem isL_ok {K : PySem.W.Frag} {mg : Str → Option Value} {am : Am} {Hf : Hp} {v : V} {y : R} {k : Nat → Prop} (r : RelR K mg am Hf v y) (h : isL y k) : ∃ n a, v = .ref a ∧ am.pl[n]? = some (a, .lst) ∧ k n := by
  cases y with
  | l n =>
    obtain ⟨a, h1, h2⟩ := r
    exact ⟨n, a, h1, h2, h⟩
  | _ => exact h.elim
theorem se_u {g : GU} (slot : Slot "list" name id) (hty : typeOf (.builtin id) = pure (.type "method_descriptor")) (op : OpU X id g) (ho : SE X W o wa) (ha : SA X W (e :: es) wr)
    (hbase : attributeBase o name X.env (eval o X.env) = eval o X.env := by rfl)
    (hfew : ((backTo cpos (starEach (e :: es) X.env)).all (fun x => !x.1) && (backToKw cpos (keywordEach [] X.env)).all (fun x => x.1.isSome)
      && decide ((e :: es).length + ([] : List Keyword).length + (if ([] : List Keyword).isEmpty then 0 else 1) < 30)) = true := by rfl)
    (hline : (apos.endLine == cpos.line) = true := by rfl) (hs : starEach (e :: es) X.env = (false, eval e X.env) :: starEach es X.env := by rfl) (hplain : (backTo cpos (starEach es X.env)).any (·.1) = false := by rfl) :
    SE X W (.Call (.Attribute o name apos) (e :: es) [] cpos) (wU g wa wr) := by
  obtain ⟨rm, hm, hr⟩ := op
  refine peI (pe_bm PySem.F.plainAttrs_list slot hty hm ho ha hbase hfew hline hs hplain) fun s H Q h => ?_
  obtain ⟨am, Hf, r, k, x, S, hw, hk, hx⟩ := h
  refine ⟨am, Hf, r, _, x, S, hw, fun y r1 am1 Hf1 H1 v p1 S1 rr q => ?_, hx⟩
  obtain ⟨n, ad, rfl, had, q⟩ := isL_ok rr q
  obtain ⟨d0, e0, q⟩ := lstAt_ok q
  obtain ⟨_, xs0, h0, _⟩ := S1.live n ad d0 had e0
  refine ⟨.inl ⟨rfl, xs0, Evl.sq_of h0⟩, am1, Hf1, r1, _, x, S1, q, fun ys r2 am2 Hf2 H2 vs p2 S2 rs q3 => ?_, hx.next p1⟩
  obtain ⟨ds, r3, Hf3, p3, S3, ra, q4⟩ := frzs_ok S2 rs q3
  obtain ⟨cur, e1, q5⟩ := lstAt_ok q4
  have had2 := p2.at had
  obtain ⟨_, xs1, h1, h2⟩ := S3.live n ad cur had2 e1
  refine hr ad xs1 vs Hf3 H2 cur ds _ Q S3.le h1 h2 ra q5 fun v d cur' dc' rv rc kk => ?_
  obtain ⟨p4, S4⟩ := S3.put had2 e1 rc
  exact hk (.d d) _ am2 Hf3 _ v (((p1.trans p2).trans p3).trans p4) S4 rv kk
theorem se_u0 {g : GU} (slot : Slot "list" name id) (hty : typeOf (.builtin id) = pure (.type "method_descriptor")) (op : OpU X id g) (ho : SE X W o wa)
    (hbase : attributeBase o name X.env (eval o X.env) = eval o X.env := by rfl) (hline : (apos.endLine == cpos.line) = true := by rfl) : SE X W (.Call (.Attribute o name apos) [] [] cpos) (wU0 g wa) := by
  obtain ⟨rm, hm, hr⟩ := op
  refine peI (pe_bm0 PySem.F.plainAttrs_list slot hty hm ho hbase hline) fun s H Q h => ?_
  obtain ⟨am, Hf, r, k, x, S, hw, hk, hx⟩ := h
  refine ⟨am, Hf, r, _, x, S, hw, fun y r1 am1 Hf1 H1 v p1 S1 rr q => ?_, hx⟩
  obtain ⟨n, ad, rfl, had, q⟩ := isL_ok rr q
  obtain ⟨cur, e1, q⟩ := lstAt_ok q
  obtain ⟨_, xs1, h1, h2⟩ := S1.live n ad cur had e1
  refine ⟨.inl ⟨rfl, xs1, Evl.sq_of h1⟩, hr ad xs1 [] Hf1 H1 cur [] _ Q S1.le h1 h2 .nil q fun v d cur' dc' rv rc kk => ?_⟩
  obtain ⟨p4, S4⟩ := S1.put had e1 rc
  exact hk (.d d) _ am1 Hf1 _ v (p1.trans p4) S4 rv kk
/-! ### the script: its length, an item -/
def isScr (y : R) (k : List Int → Prop) : Prop := match y with
  | .o (.scr ns) => k ns
  | _ => False
theorem isScr_ok {K : PySem.W.Frag} {mg : Str → Option Value} {am : Am} {Hf : Hp} {v : V} {y : R} {k : List Int → Prop} (r : RelR K mg am Hf v y) (h : isScr y k) : ∃ ns a, v = .ref a ∧ SqL K Hf a (ns.map V.int) ∧ k ns := by
  cases y with
  | o b =>
    cases b with
    | scr ns =>
      obtain ⟨a, h1, h2⟩ := r
      exact ⟨ns, a, h1, h2, h⟩
    | _ => exact h.elim
  | _ => exact h.elim
def wScrLen (we : WE) : WE := fun r k x => we r (fun y r1 => isScr y fun ns => k (.d (.int ns.length)) r1) x
theorem se_scrLen (hm : X.mg "len" = none) (h : SE X W e we) (hg : Gl X "len" := by rfl) (he : starEach (e :: []) X.env = (false, eval e X.env) :: starEach [] X.env := by rfl) (hpl : (backTo pos (starEach [] X.env)).any (·.1) = false := by rfl) :
    SE X W (.Call (.Name "len" p) [e] [] pos) (wScrLen we) := by
  refine peI (pe_callB call_len_seq hg hm PySem.boot_len (pa_cons h pa_nil he) (by decide) (by decide) he hpl) fun s H Q h => ?_
  obtain ⟨am, Hf, r, k, x, S, hw, hk, hx⟩ := h
  refine ⟨am, Hf, r, _, x, S, hw, fun y r1 am1 Hf1 H1 v p1 S1 rr q => ?_, hx⟩
  obtain ⟨ns, a, rfl, hs, q⟩ := isScr_ok rr q
  refine ⟨a, ns.map V.int, rfl, .inl (Evl.ex_l S1.le hs), ?_⟩
  rw [List.length_map]
  exact hk (.d (.int ns.length)) r1 am1 Hf1 H1 _ p1 S1 (Rp.int _) q
def wScrAt (wa wb : WE) : WE := fun r k x => wa r (fun y r1 => wb r1 (fun z r2 => isScr y fun ns => isI z fun i => match atI ns i with
  | some n => k (.d (.int n)) r2
  | none => False) x) x
theorem atI_map {α β : Type} {f : α → β} {xs : List α} {i : Int} : atI (xs.map f) i = (atI xs i).map f := by
  unfold atI
  rw [List.length_map]
  cases ixN xs.length i with
  | none => rfl
  | some j =>
    show (xs.map f)[j]? = (xs[j]?).map f
    rw [List.getElem?_map]
theorem se_scrAt (ha : SE X W a wa) (hb : SE X W b wb) (hs : PlainIx b := by intro _ _; rfl) : SE X W (.Subscript a b pos) (wScrAt wa wb) := by
  refine peI (pe_ix ix_list ha hb hs) fun s H Q h => ?_
  obtain ⟨am, Hf, r, k, x, S, hw, hk, hx⟩ := h
  refine ⟨am, Hf, r, _, x, S, hw, fun y r1 am1 Hf1 H1 v p1 S1 rr q => ?_, hx⟩
  refine ⟨am1, Hf1, r1, _, x, S1, q, fun z r2 am2 Hf2 H2 w p2 S2 rr2 q2 => ?_, hx.next p1⟩
  obtain ⟨ns, a, rfl, hs, q3⟩ := isScr_ok (rr.mono p2) q2
  obtain ⟨i, rfl, q4⟩ := isI_ok rr2 q3
  cases ea : atI ns i with
  | none =>
    rw [ea] at q4
    exact q4.elim
  | some n =>
    rw [ea] at q4
    exact ⟨a, ns.map V.int, i, .int n, rfl, rfl, Evl.ex_l S2.le hs, by rw [atI_map, ea]; rfl, hk (.d (.int n)) r2 am2 Hf2 H2 _ (p1.trans p2) S2 (Rp.int _) q4⟩
end

/-! ### statements -/
def wNext : WS := fun r p => p.nx r
def wSeq (a b : WS) : WS := fun r p => a r { p with nx := fun r1 => b r1 p }
def wDrop (w : WE) : WS := fun r p => w r (fun _ r1 => p.nx r1) p.ex
def wRet (w : WE) : WS := fun r p => w r p.rt p.ex
def wRetN : WS := fun r p => p.rt (.d .none) r
def wBrk : WS := fun r p => p.bk r
def wCnt : WS := fun r p => p.ct r
def wIfS (t : WT) (a b : WS) : WS := fun r p => t r (fun c r1 => match c with
  | true => a r1 p
  | false => b r1 p) p.ex
def wSet (i : Nat) (w : WE) : WS := fun r p => w r (fun y r1 => p.nx (r1.put i y)) p.ex
section
variable {K : PySem.W.Frag} {mg : Str → Option Value} {am : Am} {Hf H : Hp} {s : L2.St} {r : Env} {v : V} {y : R}
theorem Sim.set (S : Sim K mg am Hf H s r) (i : Nat) (h : RelR K mg am Hf v y) : Sim K mg am Hf H (s.set i (some v)) (r.put i y) := by
  refine ⟨S.le, S.len, S.nd, S.tr, S.cell, S.ou, fun j x hx => ?_, ?_⟩
  · have hx' : (r.sl.set i (some y))[j]? = some (some x) := hx
    by_cases hj : j = i
    · have hl : i < r.sl.length := by
        have := (List.getElem?_eq_some_iff.mp hx').1
        rw [List.length_set] at this
        rw [← hj]
        exact this
      rw [hj, List.getElem?_set_self hl] at hx'
      have e : y = x := by simpa using hx'
      rw [← e]
      exact ⟨v, by rw [hj, List.getElem?_set_self (by rw [← S.sz]; exact hl)], h⟩
    · rw [List.getElem?_set_ne (Ne.symm hj)] at hx'
      obtain ⟨w, h1, h2⟩ := S.sl j x hx'
      exact ⟨w, by rw [List.getElem?_set_ne (Ne.symm hj)]; exact h1, h2⟩
  · show (r.sl.set i (some y)).length = (s.set i (some v)).length
    rw [List.length_set, List.length_set]
    exact S.sz
end
section
variable {X : Cx} {W : WX} {pos : Pos} {e c : Expr} {st : Stmt} {sts rest : List Stmt} {we : WE} {wt : WT} {ws wu : WS}
theorem sb_nil : SB X W [] wNext := by
  refine pssI pss_nil fun Z s H h => ?_
  obtain ⟨am, Hf, r, p, S, hw, h1, _⟩ := h
  exact h1 r am Hf H s .refl S hw
theorem sb_one (h : SS X W st ws) : SB X W [st] ws := pss_one h
theorem sb_cons (h1 : SS X W st ws) (h2 : SB X W rest wu) : SB X W (st :: rest) (wSeq ws wu) := by
  refine pssI (pss_cons h1 h2) fun Z s H h => ?_
  obtain ⟨am, Hf, r, p, S, hw, g1, g2, g3, g4, g5⟩ := h
  refine ⟨am, Hf, r, _, S, hw, fun r1 am1 Hf1 H1 s1 p1 S1 q => ?_, g2, g3, g4, g5⟩
  exact ⟨am1, Hf1, r1, p, S1, q, fun r' am' Hf' H' s' p' S' q => g1 r' am' Hf' H' s' (p1.trans p') S' q, fun y r' am' Hf' H' s' v p' S' rr q => g2 y r' am' Hf' H' s' v (p1.trans p') S' rr q,
    fun r' am' Hf' H' s' p' S' q => g3 r' am' Hf' H' s' (p1.trans p') S' q, fun r' am' Hf' H' s' p' S' q => g4 r' am' Hf' H' s' (p1.trans p') S' q, g5.next p1⟩
theorem ss_pass : SS X W (.Pass pos) wNext := by
  refine psI ps_pass fun Z s H h => ?_
  obtain ⟨am, Hf, r, p, S, hw, h1, _⟩ := h
  exact h1 r am Hf H s .refl S hw
theorem ss_expr (he : SE X W e we) (hs : swapsWith e none pos.line X.env = pure false := by rfl) : SS X W (.Expr e pos) (wDrop we) := by
  refine psI (ps_expr he hs) fun Z s H h => ?_
  obtain ⟨am, Hf, r, p, S, hw, g1, g2, g3, g4, g5⟩ := h
  exact ⟨am, Hf, r, _, p.ex, S, hw, fun y r1 am1 Hf1 H1 v p1 S1 rr q => g1 r1 am1 Hf1 H1 s p1 S1 q, g5.at⟩
theorem ss_ret (he : SE X W e we) : SS X W (.Return (some e) pos) (wRet we) := by
  refine psI (ps_ret he) fun Z s H h => ?_
  obtain ⟨am, Hf, r, p, S, hw, g1, g2, g3, g4, g5⟩ := h
  exact ⟨am, Hf, r, _, p.ex, S, hw, fun y r1 am1 Hf1 H1 v p1 S1 rr q => g2 y r1 am1 Hf1 H1 s v p1 S1 rr q, g5.at⟩
theorem ss_if (hc : ST X W c wt) (ha : SB X W sts ws) (hb : SB X W rest wu) : SS X W (.If c sts rest pos) (wIfS wt ws wu) := by
  refine psI (ps_if hc ha hb) fun Z s H h => ?_
  obtain ⟨am, Hf, r, p, S, hw, g1, g2, g3, g4, g5⟩ := h
  refine ⟨am, Hf, r, _, p.ex, S, hw, fun b r1 am1 Hf1 H1 p1 S1 q => ?_, g5.at⟩
  have go : ∀ {w : WS}, w r1 p → tS X.K X.mg W w Z s H1 := fun {w} q => ⟨am1, Hf1, r1, p, S1, q, fun r' am' Hf' H' s' p' S' q => g1 r' am' Hf' H' s' (p1.trans p') S' q, fun y r' am' Hf' H' s' v p' S' rr q => g2 y r' am' Hf' H' s' v (p1.trans p') S' rr q,
    fun r' am' Hf' H' s' p' S' q => g3 r' am' Hf' H' s' (p1.trans p') S' q, fun r' am' Hf' H' s' p' S' q => g4 r' am' Hf' H' s' (p1.trans p') S' q, g5.next p1⟩
  cases b with
  | true => exact go q
  | false => exact go q
theorem ss_set (i : Nat) {x : Str} {pos' : Pos} (he : SE X W e we) (hN : X.N.Nodup) (hi : X.N[i]? = some x := by rfl) (hx : Loc X.env.scope x := by first | exact Or.inl rfl | exact Or.inr rfl) (hs : swapsWith e (some (.Name x pos')) pos.line X.env = pure false := by rfl)
    (hf : X.fn x = true ∨ X.env.scope.names.lookup x = some .local := by first | exact .inl rfl | exact .inr rfl | assumption) : SS X W (.Assign [.Name x pos'] e pos) (wSet i we) := by
  refine psI (ps_set hN hi hx he hs hf) fun Z s H h => ?_
  obtain ⟨am, Hf, r, p, S, hw, g1, g2, g3, g4, g5⟩ := h
  exact ⟨am, Hf, r, _, p.ex, S, hw, fun y r1 am1 Hf1 H1 v p1 S1 rr q => g1 _ am1 Hf1 H1 _ p1 (S1.set i rr) q, g5.at⟩
/-- several names at once: the values, then the stores -/
def putMany : List Nat → List R → Env → (Env → Prop) → Prop
  | [], [], r, k => k r
  | i :: is, y :: ys, r, k => putMany is ys (r.put i y) k
  | _, _, _, _ => False
def wPar (is : List Nat) (ws : WA) : WS := fun r p => ws r (fun ys r1 => putMany is ys r1 p.nx) p.ex
def setsV : List Nat → List V → L2.St → L2.St
  | i :: is, v :: vs, s => setsV is vs (s.set i (some v))
  | _, _, s => s
theorem putMany_ok {K : PySem.W.Frag} {mg : Str → Option Value} {am : Am} {Hf H : Hp} : ∀ {is : List Nat} {ys : List R} {vs : List V} {s : L2.St} {r : Env} {k : Env → Prop}, Sim K mg am Hf H s r → Paired (RelR K mg am Hf) vs ys → putMany is ys r k →
    ∃ r', Sim K mg am Hf H (setsV is vs s) r' ∧ is.length = vs.length ∧ k r'
  | [], _, _, _, r, _, S, .nil, q => ⟨r, S, rfl, q⟩
  | [], _, _, _, _, _, _, .cons _ _, q => q.elim
  | _ :: _, _, _, _, _, _, _, .nil, q => q.elim
  | i :: is, _, _, _, r, k, S, .cons h t, q => by
    obtain ⟨r', h1, h2, h3⟩ := putMany_ok (is := is) (S.set i h) t q
    exact ⟨r', h1, congrArg (· + 1) h2, h3⟩
theorem ss_par2 (i j : Nat) {x y : Str} {a b : Expr} {wr : WA} {px py pt : Pos} {kt k2 pt2} (ha : SA X W [a, b] wr) (hc : X.calm = true) (hN : X.N.Nodup) (hi : X.N[i]? = some x := by rfl) (hj : X.N[j]? = some y := by rfl) (hij : i ≠ j := by decide)
    (hx : X.env.scope.names.lookup x = some .local := by rfl) (hy : X.env.scope.names.lookup y = some .local := by rfl)
    (hw : swappedStores [.Tuple [.Name x px, .Name y py] kt pt] (.Tuple [a, b] k2 pt2) X.env = pure (some [x, y]) := by rfl) :
    SS X W (.Assign [.Tuple [.Name x px, .Name y py] kt pt] (.Tuple [a, b] k2 pt2) pos) (wPar [i, j] wr) := by
  refine psI (ps_par hc hN hi hj hij hx hy ha hw) fun Z s H h => ?_
  obtain ⟨am, Hf, r, p, S, hw, g1, g2, g3, g4, g5⟩ := h
  refine ⟨am, Hf, r, _, p.ex, S, hw, fun ys r1 am1 Hf1 H1 vs p1 S1 rs q => ?_, g5.at⟩
  obtain ⟨r', S', hl, q⟩ := putMany_ok S1 rs q
  match vs, hl, S' with
  | [v, w], _, S' => exact ⟨v, w, rfl, g1 r' am1 Hf1 H1 _ p1 S' q⟩
end
end Dl

/-! the data layer, part 5: what is walked, targets, for, while, comprehensions, more statements -/
namespace Dl
open PySem
open PySem.Spec
open PyProof.Rows
open L2
open Evl (Ex)
open RZ (ItzT pi_zipA)

/-! ### what is walked -/
abbrev WI := Env → (List D → Env → Prop) → XQ → Prop
/-- J walks data that stand for ds -/
def Wk (K : PySem.W.Frag) (Hf : Hp) (J : It) (ds : List D) : Prop := ∀ (i : Nat) (Hf' H' : Hp), Ex Hf Hf' → Ex Hf' H' →
  (∀ d, ds[i]? = some d → J.go i H' ∧ ∀ x H2, J.yld i H' x H2 → ∃ Hf2, Grow Hf' H' Hf2 H2 ∧ Rp K Hf2 x d) ∧ (ds.length = i → J.stop i H')
def tI (K : PySem.W.Frag) (mg : Str → Option Value) (W : WX) (w : WI) : TI := fun s H R => ∃ am Hf r k x, Sim K mg am Hf H s r ∧ w r k x ∧
  (∀ ds r' am' Hf' H' J, Stp am Hf H am' Hf' H' → Sim K mg am' Hf' H' s r' → Wk K Hf' J ds → k ds r' → R J H') ∧ XC K mg W x am Hf H s
abbrev SI (X : Cx) (W : WX) (tg e : Expr) (w : WI) : Prop := PI X tg e (tI X.K X.mg W w)
theorem piI {X : Cx} {tg e : Expr} {t t' : TI} (h : PI X tg e t) (i : ∀ s H R, t' s H R → t s H R) : PI X tg e t' := ⟨fun pins s σ H R I q => h.run pins s σ H R I (i _ _ _ q)⟩
section
variable {K : PySem.W.Frag} {Hf : Hp}
theorem Wk.list {a : Addr} {xs : List V} {ds : List D} (h : Hf a = some (.lst xs)) (r : RpA K Hf xs ds) : Wk K Hf (Itl K a) ds := fun i Hf' H' e1 e2 => by
  have hq : SqL K H' a xs := Evl.sq_of (e2 _ _ (e1 _ _ h))
  refine ⟨fun d hd => ?_, fun hle => have hl := Nat.le_of_eq hle; ⟨xs, hq, by rw [r.length]; exact hl⟩⟩
  obtain ⟨v, hv, rv⟩ := r.getD hd
  refine ⟨⟨xs, v, hq, hv⟩, fun x H2 hy => ?_⟩
  obtain ⟨rfl, hy⟩ := hy
  have e : x = v := Option.some.inj ((hy xs hq).symm.trans hv)
  rw [e]
  exact ⟨Hf', .refl e2, rv.mono e1⟩
theorem Wk.tup {a : Addr} {xs : List V} {ds : List D} (h : SqT K Hf a xs) (r : RpA K Hf xs ds) : Wk K Hf (Itt K a) ds := fun i Hf' H' e1 e2 => by
  have hq : SqT K H' a xs := Evl.ex_t (e1.trans e2) h
  refine ⟨fun d hd => ?_, fun hle => have hl := Nat.le_of_eq hle; ⟨xs, hq, by rw [r.length]; exact hl⟩⟩
  obtain ⟨v, hv, rv⟩ := r.getD hd
  refine ⟨⟨xs, v, hq, hv⟩, fun x H2 hy => ?_⟩
  obtain ⟨rfl, hy⟩ := hy
  have e : x = v := Option.some.inj ((hy xs hq).symm.trans hv)
  rw [e]
  exact ⟨Hf', .refl e2, rv.mono e1⟩
def sign (c : Nat) : D := .str ⟨#[c]⟩
def signs (z : Str) : List D := z.cps.toList.map sign
theorem Wk.str {z : Str} : Wk K Hf (Its z) (signs z) := fun i Hf' H' e1 e2 => by
  refine ⟨fun d hd => ?_, fun hle => have hl := Nat.le_of_eq hle; ?_⟩
  · unfold signs at hd
    rw [List.getElem?_map] at hd
    cases e : z.cps.toList[i]? with
    | none =>
      rw [e] at hd
      cases hd
    | some c =>
      rw [e] at hd
      have ed : sign c = d := Option.some.inj hd
      have ec : z.cps[i]? = some c := by simpa using e
      refine ⟨(Array.getElem?_eq_some_iff.mp ec).1, fun x H2 hy => ?_⟩
      obtain ⟨rfl, c', h1, rfl⟩ := hy
      rw [ec] at h1
      cases h1
      rw [← ed]
      exact ⟨Hf', .refl e2, .str _⟩
  · unfold signs at hl
    rw [List.length_map, Array.length_toList] at hl
    exact hl
def intR (lo : Int) (n : Nat) : List D := (List.range n).map fun (i : Nat) => .int (lo + i)
theorem Wk.rng {lo : Int} {n : Nat} : Wk K Hf (Itr lo n) (intR lo n) := fun i Hf' H' e1 e2 => by
  refine ⟨fun d hd => ?_, fun hle => have hl := Nat.le_of_eq hle; ?_⟩
  · unfold intR at hd
    rw [List.getElem?_map] at hd
    cases e : (List.range n)[i]? with
    | none =>
      rw [e] at hd
      cases hd
    | some j =>
      rw [e] at hd
      have hlt : i < n := by
        have := (List.getElem?_eq_some_iff.mp e).1
        rwa [List.length_range] at this
      have ej : j = i := by
        rw [List.getElem?_range hlt] at e
        exact (Option.some.inj e).symm
      have ed : PyData.int (lo + (j : Nat)) = d := Option.some.inj hd
      refine ⟨hlt, fun x H2 hy => ?_⟩
      obtain ⟨rfl, rfl⟩ := hy
      rw [← ed, ej]
      exact ⟨Hf', .refl e2, .int _⟩
  · unfold intR at hl
    rw [List.length_map, List.length_range] at hl
    exact hl
def intRC (lo c : Int) (n : Nat) : List D := (List.range n).map fun (i : Nat) => .int (lo + i * c)
def pairs (ds es : List D) : List D := (ds.zip es).map fun p => .tuple [p.1, p.2]
theorem pairs_at {ds es : List D} {i : Nat} {d : D} (h : (pairs ds es)[i]? = some d) : ∃ a b, ds[i]? = some a ∧ es[i]? = some b ∧ d = .tuple [a, b] := by
  unfold pairs at h
  rw [List.getElem?_map] at h
  cases e : (ds.zip es)[i]? with
  | none =>
    rw [e] at h
    cases h
  | some p =>
    rw [e] at h
    obtain ⟨e1, e2⟩ := List.getElem?_zip_eq_some.mp e
    exact ⟨p.1, p.2, e1, e2, (Option.some.inj h).symm⟩
theorem pairs_len {ds es : List D} {i : Nat} (h : (pairs ds es).length ≤ i) : ds.length ≤ i ∨ es.length ≤ i := by
  unfold pairs at h
  rw [List.length_map, List.length_zip] at h
  omega
theorem pair_new {Hf' H' : Hp} {T : Addr} {x y : V} {a b : D} (e2 : Ex Hf' H') (hT : H' T = none) (ra : Rp K Hf' x a) (rb : Rp K Hf' y b) : ∃ Hf2, Grow Hf' H' Hf2 (upd H' T (.tup [x, y])) ∧ Rp K Hf2 (.ref T) (.tuple [a, b]) := by
  have g : Grow Hf' H' (upd Hf' T (.tup [x, y])) (upd H' T (.tup [x, y])) := .new e2 hT
  exact ⟨_, g, .tup (Evl.st_of upd_same) (.cons (ra.mono g.lf) (.cons (rb.mono g.lf) .nil))⟩
theorem Wk.zipL {a b : Addr} {xs ys : List V} {ds es : List D} (h : Hf a = some (.lst xs)) (h' : Hf b = some (.lst ys)) (r : RpA K Hf xs ds) (r' : RpA K Hf ys es) : Wk K Hf (Itz K a b) (pairs ds es) := fun i Hf' H' e1 e2 => by
  have hq : SqL K H' a xs := Evl.sq_of (e2 _ _ (e1 _ _ h))
  have hq' : SqL K H' b ys := Evl.sq_of (e2 _ _ (e1 _ _ h'))
  refine ⟨fun d hd => ?_, fun hle => have hl := Nat.le_of_eq hle; ⟨xs, ys, hq, hq', ?_⟩⟩
  · obtain ⟨da, db, g1, g2, rfl⟩ := pairs_at hd
    obtain ⟨v, hv, rv⟩ := r.getD g1
    obtain ⟨u, hu, ru⟩ := r'.getD g2
    refine ⟨⟨xs, ys, v, u, hq, hq', hv, hu⟩, fun x H2 hy => ?_⟩
    obtain ⟨T, x1, x2, rfl, hT, rfl, f1, f2⟩ := hy
    have e3 : x1 = v := Option.some.inj ((f1 xs hq).symm.trans hv)
    have e4 : x2 = u := Option.some.inj ((f2 ys hq').symm.trans hu)
    rw [e3, e4]
    exact pair_new e2 hT (rv.mono e1) (ru.mono e1)
  · rw [r.length, r'.length]
    exact pairs_len hl
theorem Wk.zipT {a b : Addr} {xs ys : List V} {ds es : List D} (h : SqT K Hf a xs) (h' : SqT K Hf b ys) (r : RpA K Hf xs ds) (r' : RpA K Hf ys es) : Wk K Hf (ItzT K a b) (pairs ds es) := fun i Hf' H' e1 e2 => by
  have hq : SqT K H' a xs := Evl.ex_t (e1.trans e2) h
  have hq' : SqT K H' b ys := Evl.ex_t (e1.trans e2) h'
  refine ⟨fun d hd => ?_, fun hle => have hl := Nat.le_of_eq hle; ⟨xs, ys, hq, hq', ?_⟩⟩
  · obtain ⟨da, db, g1, g2, rfl⟩ := pairs_at hd
    obtain ⟨v, hv, rv⟩ := r.getD g1
    obtain ⟨u, hu, ru⟩ := r'.getD g2
    refine ⟨⟨xs, ys, v, u, hq, hq', hv, hu⟩, fun x H2 hy => ?_⟩
    obtain ⟨T, x1, x2, rfl, hT, rfl, f1, f2⟩ := hy
    have e3 : x1 = v := Option.some.inj ((f1 xs hq).symm.trans hv)
    have e4 : x2 = u := Option.some.inj ((f2 ys hq').symm.trans hu)
    rw [e3, e4]
    exact pair_new e2 hT (rv.mono e1) (ru.mono e1)
  · rw [r.length, r'.length]
    exact pairs_len hl
end
def itemsD (d : D) (k : List D → Prop) : Prop := match d with
  | .list ds => k ds
  | .tuple ds => k ds
  | .str z => k (signs z)
  | _ => False
def wIt (we : WE) : WI := fun r k x => we r (fun y r1 => frz y r1 fun d r2 => itemsD d fun ds => k ds r2) x
def rng1 (ds : List D) (k : List D → Prop) : Prop := match ds with
  | [.int j] => -(2 ^ 62) ≤ j ∧ j < 2 ^ 62 ∧ k (intR 0 j.toNat)
  | _ => False
def rng2 (ds : List D) (k : List D → Prop) : Prop := match ds with
  | [.int i, .int j] => (-(2 ^ 62) ≤ i ∧ i < 2 ^ 62 ∧ -(2 ^ 62) ≤ j ∧ j < 2 ^ 62) ∧ k (intR i (j - i).toNat)
  | _ => False
/-- downward by ones -/
def rng3 (ds : List D) (k : List D → Prop) : Prop := match ds with
  | [.int i, .int j, .int c] => c = -1 ∧ (-(2 ^ 62) ≤ i ∧ i < 2 ^ 62 ∧ -(2 ^ 62) ≤ j ∧ j < 2 ^ 62) ∧ k (intRC i c (i - j).toNat)
  | _ => False
def wRng (g : List D → (List D → Prop) → Prop) (wr : WA) : WI := fun r k x => wr r (fun ys r1 => drefs ys r1 fun ds => g ds fun is => k is r1) x
def wZip (wr : WA) : WI := fun r k x => wr r (fun ys r1 => frzs ys r1 fun ds r2 => match ds with
  | [.list a, .list b] => k (pairs a b) r2
  | [.tuple a, .tuple b] => k (pairs a b) r2
  | _ => False) x
def wEnum (wr : WA) : WI := fun r k x => wr r (fun ys r1 => frzs ys r1 fun ds r2 => match ds with
  | [.list a] => k (pairs (intR 0 a.length) a) r2
  | _ => False) x
section
variable {X : Cx} {W : WX} {tg e a b c : Expr} {p pos tpos : Pos} {we : WE} {wr : WA} {elts : List Expr} {kk : Nat}
theorem si_it (h : SE X W e we) : SI X W tg e (wIt we) := by
  refine ⟨fun pins s σ H R I q => ?_⟩
  obtain ⟨am, Hf, r, k, x, S, hw, hk, hx⟩ := q
  refine thn (h.run pins s σ H (fun v H1 => ∃ am1 Hf1 r2 d, Stp am Hf H am1 Hf1 H1 ∧ Sim X.K X.mg am1 Hf1 H1 σ r2 ∧ Rp X.K Hf1 v d ∧ itemsD d fun ds => k ds r2) I ⟨am, Hf, r, _, x, S, hw, fun y r1 am1 Hf1 H1 v p1 S1 rr q => ?_, hx⟩) fun v s1 ⟨y, H1, I1, r1, am1, Hf1, r2, d, p1, S1, rd, q⟩ => ?_
  · obtain ⟨d, r2, Hf2, p2, S2, rd, q⟩ := frz_ok S1 rr q
    exact ⟨am1, Hf2, r2, d, p1.trans p2, S2, rd, q⟩
  · cases rd with
    | @lst a xs ds h1 h2 =>
      cases r1
      obtain ⟨its, rv, pl, hz⟩ := I1.list (Evl.sq_of (S1.le _ _ h1))
      exact wpAny_pyIter_list pl.isList (pi_one (tk := s1.toks) I1 _ (turn_list a _) ⟨_, Heap.get?_push_size _ rfl, rfl, rfl⟩ (hk ds r2 am1 Hf1 H1 _ p1 S1 (.list h1 h2) q))
    | @tup a xs ds h1 h2 =>
      cases r1
      obtain ⟨its, rv, pl, hz⟩ := I1.tuple (Evl.ex_t S1.le h1)
      exact wpAny_pyIter_tuple (show s1.heap.IsTuple a its.toArray from pl) (pi_one (tk := s1.toks) I1 _ (turn_tuple a _) ⟨_, Heap.get?_push_size _ rfl, rfl, rfl⟩ (hk ds r2 am1 Hf1 H1 _ p1 S1 (.tup h1 h2) q))
    | str z =>
      obtain ⟨t, rfl⟩ := r1
      have q2 := hk (signs z) r2 am1 Hf1 H1 _ p1 S1 .str q
      cases ha : z.cps.all (· < 128)
      · exact wpAny_pyIter_wide ha (pi_one (tk := s1.toks) I1 _ (turn_str _ z t _ (.inr rfl)) ⟨_, Heap.get?_push_size _ rfl, rfl, rfl⟩ q2)
      · exact wpAny_pyIter_ascii ha (pi_one (tk := s1.toks) I1 _ (turn_str _ z t _ (.inl rfl)) ⟨_, Heap.get?_push_size _ rfl, rfl, rfl⟩ q2)
    | _ => exact q.elim
theorem rpHs_int1 {K : PySem.W.Frag} {Hf H : Hp} {vs : List V} {i : Int} (h : RpHs K Hf H vs [.int i]) : vs = [.int i] := by
  cases h with
  | cons h t =>
    cases t
    rw [h.int]
theorem si_rng1 (hm : X.mg "range" = none) (ha : SA X W [a] wr) (hg : Gl X "range" := by rfl) (hs : starEach [a] X.env = [(false, eval a X.env)] := by rfl) : SI X W tg (.Call (.Name "range" p) [a] [] pos) (wRng rng1 wr) := by
  refine piI (pi_range1 hg hm ha hs) fun s H R q => ?_
  obtain ⟨am, Hf, r, k, x, S, hw, hk, hx⟩ := q
  refine ⟨am, Hf, r, _, x, S, hw, fun ys r1 am1 Hf1 H1 vs p1 S1 rs q => ?_, hx⟩
  obtain ⟨ds, rds, q⟩ := drefs_ok S1 rs q
  unfold rng1 at q
  split at q
  · obtain ⟨h1, h2, q⟩ := q
    exact ⟨_, rpHs_int1 rds, h1, h2, hk _ r1 am1 Hf1 H1 _ p1 S1 .rng q⟩
  · exact q.elim
theorem si_zip (hm : X.mg "zip" = none) (ha : SA X W [a, b] wr) (hg : Gl X "zip" := by rfl) (hs : starEach [a, b] X.env = (false, eval a X.env) :: starEach [b] X.env := by rfl) (hpl : (backTo pos (starEach [b] X.env)).any (·.1) = false := by rfl) :
    SI X W (.Tuple elts kk tpos) (.Call (.Name "zip" p) [a, b] [] pos) (wZip wr) := by
  refine piI (pi_zipA hg hm ha hs hpl) fun s H R q => ?_
  obtain ⟨am, Hf, r, k, x, S, hw, hk, hx⟩ := q
  refine ⟨am, Hf, r, _, x, S, hw, fun ys r1 am1 Hf1 H1 vs p1 S1 rs q => ?_, hx⟩
  obtain ⟨ds, r2, Hf2, p2, S2, ra, q⟩ := frzs_ok S1 rs q
  have p3 := p1.trans p2
  split at q
  · cases ra with
    | cons h t =>
      cases t with
      | cons h' t' =>
        cases t'
        cases h with
        | lst h1 g1 =>
          cases h' with
          | lst h2 g2 => exact ⟨_, _, _, _, rfl, .inl ⟨Evl.sq_of (S2.le _ _ h1), Evl.sq_of (S2.le _ _ h2), hk _ r2 am1 Hf2 H1 _ p3 S2 (.zipL h1 h2 g1 g2) q⟩⟩
  · cases ra with
    | cons h t =>
      cases t with
      | cons h' t' =>
        cases t'
        cases h with
        | tup h1 g1 =>
          cases h' with
          | tup h2 g2 => exact ⟨_, _, _, _, rfl, .inr ⟨Evl.ex_t S2.le h1, Evl.ex_t S2.le h2, hk _ r2 am1 Hf2 H1 _ p3 S2 (.zipT h1 h2 g1 g2) q⟩⟩
  · exact q.elim
end

/-! ### targets: a name, a tuple of names -/
inductive Tg where
  | nm (i : Nat)
  | tp (is : List Nat)
def gNs : List Nat → TGs
  | [] => gNil
  | i :: is => gCons (gName i) (gNs is)
def gT (K : PySem.W.Frag) : Tg → TG
  | .nm i => gName i
  | .tp is => gTup K is.length (gNs is)
def asgT (t : Tg) (d : D) (r : Env) (k : Env → Prop) : Prop := match t with
  | .nm i => k (r.put i (.d d))
  | .tp is => match d with
    | .tuple ds => putMany is (ds.map R.d) r k
    | _ => False
def Tg.slots : Tg → List Nat
  | .nm i => [i]
  | .tp is => is
theorem wipe_set {vs : List Nat} {i : Nat} {v : V} (h : i ∈ vs) : ∀ s : L2.St, wipe (s.set i (some v)) vs = wipe s vs := by
  induction vs with
  | nil => cases h
  | cons j vs ih =>
    intro s
    show (wipe (s.set i (some v)) vs).set j none = (wipe s vs).set j none
    by_cases hij : i = j
    · subst hij
      by_cases hm : i ∈ vs
      · rw [ih hm]
      · have e : wipe (s.set i (some v)) vs = (wipe s vs).set i (some v) := by
          clear ih h
          induction vs generalizing s with
          | nil => rfl
          | cons l vs ih =>
            have hl : l ≠ i := fun z => hm (by rw [z]; exact List.mem_cons_self)
            show (wipe (s.set i (some v)) vs).set l none = ((wipe s vs).set l none).set i (some v)
            rw [ih s fun z => hm (List.mem_cons_of_mem _ z), List.set_comm _ _ (Ne.symm hl)]
        rw [e, List.set_set]
    · rcases List.mem_cons.mp h with z | z
      · exact absurd z hij
      · rw [ih z]
theorem rpa_pair {K : PySem.W.Frag} {mg : Str → Option Value} {am : Am} {Hf : Hp} : ∀ {xs : List V} {ds : List D}, RpA K Hf xs ds → Paired (RelR K mg am Hf) xs (ds.map R.d)
  | _, _, .nil => .nil
  | _, _, .cons h t => .cons h (rpa_pair t)
theorem gNs_of {vs : List Nat} : ∀ {is : List Nat} {xs : List V} {s : L2.St} {H : Hp} {Q : L2.St → Hp → Prop}, is.length = xs.length → Q (setsV is xs s) H → gNs is xs s H Q
  | [], [], s, H, Q, _, q => ⟨rfl, q⟩
  | i :: is, v :: xs, s, H, Q, e, q => ⟨v, xs, rfl, gNs_of (vs := vs) (Nat.succ.inj e) q⟩
  | [], _ :: _, _, _, _, e, _ => by cases e
  | _ :: _, [], _, _, _, e, _ => by cases e
theorem wipe_sets {vs : List Nat} : ∀ {is : List Nat} {xs : List V} {s : L2.St}, (∀ i ∈ is, i ∈ vs) → wipe (setsV is xs s) vs = wipe s vs
  | [], xs, s, _ => by cases xs <;> rfl
  | i :: is, [], s, _ => rfl
  | i :: is, v :: xs, s, h => by
    show wipe (setsV is xs (s.set i (some v))) vs = wipe s vs
    rw [wipe_sets (is := is) fun j hj => h j (List.mem_cons_of_mem _ hj), wipe_set (h i List.mem_cons_self)]
theorem gT_of {K : PySem.W.Frag} {mg : Str → Option Value} {am : Am} {Hf H : Hp} {s : L2.St} {r : Env} {t : Tg} {v : V} {d : D} {k : Env → Prop} {Q : L2.St → Hp → Prop} (S : Sim K mg am Hf H s r) (rv : Rp K Hf v d) (h : asgT t d r k)
    (hQ : ∀ s' r', Sim K mg am Hf H s' r' → (∀ vs, (∀ i ∈ t.slots, i ∈ vs) → wipe s' vs = wipe s vs) → k r' → Q s' H) : gT K t v s H Q := by
  cases t with
  | nm i => exact hQ _ _ (S.set i (y := .d d) rv) (fun vs hv => wipe_set (hv i (by simp [Tg.slots])) s) h
  | tp is =>
    cases d with
    | tuple ds =>
      cases rv with
      | tup h1 h2 =>
        obtain ⟨r', S', hl, q⟩ := putMany_ok S (rpa_pair h2) h
        exact ⟨_, _, rfl, Evl.ex_t S.le h1, hl.symm, gNs_of (vs := []) hl (hQ _ r' S' (fun vs hv => wipe_sets hv) q)⟩
    | _ => exact h.elim
abbrev SG (X : Cx) (tg : Expr) (t : Tg) : Prop := PG X tg (gT X.K t)
section
variable {X : Cx} {pos : Pos}
theorem sg_nm (i : Nat) {x : Str} (hN : X.N.Nodup) (hi : X.N[i]? = some x := by rfl) (hx : Loc X.env.scope x := by first | exact Or.inl rfl | exact Or.inr rfl) (hf : X.fn x = true ∨ X.env.scope.names.lookup x = some .local := by first | exact .inl rfl | exact .inr rfl | assumption) : SG X (.Name x pos) (.nm i) := pg_name hN hi hx hf
theorem sg_tp {is : List Nat} {es : List Expr} {k : Nat} (h : PGs X es (gNs is)) (hc : X.calm = true) (hn : (assignEach es X.env).length = is.length := by rfl) (hst : (assignEach es X.env).findIdx? (·.1) = none := by rfl) : SG X (.Tuple es k pos) (.tp is) := pg_tup hc h hn hst
end

/-! ### for -/
def loopF (t : Tg) (wb : WS) (p : Post) : List D → Env → Prop
  | [], r => p.nx r
  | d :: ds, r => asgT t d r fun r1 => wb r1 { p with nx := loopF t wb p ds, ct := loopF t wb p ds, bk := p.nx }
def wFor (t : Tg) (wi : WI) (wb : WS) : WS := fun r p => wi r (fun ds r1 => loopF t wb p ds r1) p.ex
section
variable {X : Cx} {W : WX} {tg e c : Expr} {pos : Pos} {body : List Stmt} {t : Tg} {wi : WI} {wb : WS} {wt : WT}
theorem ss_for (hp : PassesOwn (model X.prog X.w) X.A X.env X.xe) (hc : X.calm = true) (hi : SI X W tg e wi) (hg : SG X tg t) (hb : SB X W body wb) (hs : ∀ x, foldedSetIterable e X.env x = pure x := by intro _; rfl) :
    SS X W (.For tg e body [] pos) (wFor t wi wb) := by
  refine psI (ps_for hp hc hi hg hb hs) fun Z s H h => ?_
  obtain ⟨am, Hf, r, p, S, hw, g1, g2, g3, g4, g5⟩ := h
  refine ⟨am, Hf, r, _, p.ex, S, hw, fun ds r1 am1 Hf1 H1 J p1 S1 wk q => ?_, g5.at⟩
  refine ⟨fun i m s' H' => i + m = ds.length ∧ ∃ am2 Hf2 r2, Stp am Hf H am2 Hf2 H' ∧ Ex Hf1 Hf2 ∧ Sim X.K X.mg am2 Hf2 H' s' r2 ∧ loopF t wb p (ds.drop i) r2, ⟨ds.length, by omega, am1, Hf1, r1, p1, Evl.Ex.refl _, S1, q⟩, ?_⟩
  rintro i m s' H' ⟨him, am2, Hf2, r2, p2, ex2, S2, q2⟩
  obtain ⟨w1, w2⟩ := wk i Hf2 H' ex2 S2.le
  cases e : ds[i]? with
  | none =>
    have hl : ds.length ≤ i := List.getElem?_eq_none_iff.mp e
    rw [List.drop_eq_nil_of_le hl] at q2
    exact .inl ⟨w2 (by omega), g1 r2 am2 Hf2 H' s' p2 S2 q2⟩
  | some d =>
    have hlt : i < ds.length := (List.getElem?_eq_some_iff.mp e).1
    have ed : ds.drop i = d :: ds.drop (i + 1) := by
      rw [List.drop_eq_getElem_cons hlt]
      congr 1
      exact (List.getElem?_eq_some_iff.mp e).2
    rw [ed] at q2
    obtain ⟨go, y⟩ := w1 d e
    refine .inr ⟨go, fun s3 H3 => ∃ am3 Hf3 r3, Stp am Hf H am3 Hf3 H3 ∧ Ex Hf1 Hf3 ∧ Sim X.K X.mg am3 Hf3 H3 s3 r3 ∧ loopF t wb p (ds.drop (i + 1)) r3, fun s3 H3 ⟨am3, Hf3, r3, h1, h2, h3, h4⟩ => ⟨m - 1, by omega, by omega, am3, Hf3, r3, h1, h2, h3, h4⟩, fun x H2 hy => ?_⟩
    obtain ⟨Hf4, gr, rv⟩ := y x H2 hy
    have S4 := S2.grow gr
    have p4 := p2.trans (gr.stp (am := am2))
    have ex4 := ex2.trans gr.lf
    refine gT_of S4 rv q2 fun s5 r5 S5 _ q5 => ?_
    have again : ∀ r' am' Hf' H' s', Stp am2 Hf4 H2 am' Hf' H' → Sim X.K X.mg am' Hf' H' s' r' → loopF t wb p (ds.drop (i + 1)) r' → ∃ am3 Hf3 r3, Stp am Hf H am3 Hf3 H' ∧ Ex Hf1 Hf3 ∧ Sim X.K X.mg am3 Hf3 H' s' r3 ∧ loopF t wb p (ds.drop (i + 1)) r3 :=
      fun r' am' Hf' H' s' pp SS q => ⟨am', Hf', r', p4.trans pp, ex4.trans pp.le, SS, q⟩
    exact ⟨am2, Hf4, r5, _, S5, q5, again, fun y r' am' Hf' H' s' v pp SS rr q => g2 y r' am' Hf' H' s' v (p4.trans pp) SS rr q, fun r' am' Hf' H' s' pp SS q => g1 r' am' Hf' H' s' (p4.trans pp) SS q, again, g5.next p4⟩
/-! ### while: a word of the state and a number that falls -/
end
end Dl

/-! the data layer, part 6: comprehensions, several names at once, stores by place, += -/
namespace Dl
open PySem
open PySem.Spec
open PyProof.Rows
open L2
open Evl (Ex)

/-! ### comprehensions -/
def wipeL {α : Type} (l : List (Option α)) : List Nat → List (Option α)
  | [] => l
  | v :: vs => (wipeL l vs).set v none
def Env.wipe (r : Env) (vs : List Nat) : Env := ⟨wipeL r.sl vs, r.st⟩
/-- behind the comprehension: what its own names held before -/
def heldD (r : Env) (i : Nat) : Option R := match r.sl[i]? with
  | some (some (.d x)) => some (.d x)
  | _ => none
def mendL (r : Env) (l : List (Option R)) : List Nat → List (Option R)
  | [] => l
  | v :: vs => (mendL r l vs).set v (heldD r v)
def Env.mend (r : Env) (r0 : Env) (vs : List Nat) : Env := ⟨mendL r0 r.sl vs, r.st⟩
section
variable {K : PySem.W.Frag} {mg : Str → Option Value} {am am0 : Am} {Hf H Hf0 H0 : Hp} {s s0 : L2.St} {r r0 : Env}
theorem wipeL_some {α : Type} {l : List (Option α)} {i : Nat} {x : α} : ∀ {vs : List Nat}, (wipeL l vs)[i]? = some (some x) → l[i]? = some (some x) ∧ i ∉ vs
  | [], h => ⟨h, by simp⟩
  | v :: vs, h => by
    have h' : ((wipeL l vs).set v none)[i]? = some (some x) := h
    by_cases hv : v = i
    · rw [hv] at h'
      by_cases hl : i < (wipeL l vs).length
      · rw [List.getElem?_set_self hl] at h'
        cases h'
      · rw [List.getElem?_eq_none (by rw [List.length_set]; omega)] at h'
        cases h'
    · rw [List.getElem?_set_ne hv] at h'
      obtain ⟨a, b⟩ := wipeL_some h'
      exact ⟨a, by simp only [List.mem_cons, not_or]; exact ⟨fun z => hv z.symm, b⟩⟩
theorem wipeL_len {α : Type} (l : List (Option α)) : ∀ vs : List Nat, (wipeL l vs).length = l.length
  | [] => rfl
  | v :: vs => by
    show ((wipeL l vs).set v none).length = l.length
    rw [List.length_set, wipeL_len l vs]
theorem wipe_out {l : L2.St} {i : Nat} {x : Option V} : ∀ {vs : List Nat}, i ∉ vs → ((wipe l vs)[i]? = some x ↔ l[i]? = some x)
  | [], _ => Iff.rfl
  | v :: vs, h => by
    have hv : v ≠ i := fun z => h (by rw [z]; exact List.mem_cons_self)
    show ((wipe l vs).set v none)[i]? = some x ↔ l[i]? = some x
    rw [List.getElem?_set_ne hv]
    exact wipe_out fun z => h (List.mem_cons_of_mem _ z)
theorem Sim.wipe (S : Sim K mg am Hf H s r) (vs : List Nat) : Sim K mg am Hf H (L2.wipe s vs) (r.wipe vs) := by
  refine ⟨S.le, S.len, S.nd, S.tr, S.cell, S.ou, fun i x h => ?_, ?_⟩
  · obtain ⟨h1, h2⟩ := wipeL_some h
    obtain ⟨v, h3, h4⟩ := S.sl i x h1
    exact ⟨v, (wipe_out h2).mpr h3, h4⟩
  · show (wipeL r.sl vs).length = (L2.wipe s vs).length
    rw [wipeL_len, wipe_length]
    exact S.sz
theorem mendL_len {l : List (Option R)} : ∀ {vs : List Nat}, (mendL r0 l vs).length = l.length
  | [] => rfl
  | v :: vs => by
    show ((mendL r0 l vs).set v _).length = l.length
    rw [List.length_set, mendL_len]
theorem mendL_some {l : List (Option R)} {i : Nat} {x : R} : ∀ {vs : List Nat}, (mendL r0 l vs)[i]? = some (some x) → (i ∈ vs ∧ r0.sl[i]? = some (some x) ∧ ∃ d, x = .d d) ∨ (i ∉ vs ∧ l[i]? = some (some x))
  | [], h => .inr ⟨by simp, h⟩
  | v :: vs, h => by
    have h' : ((mendL r0 l vs).set v (heldD r0 v))[i]? = some (some x) := h
    by_cases hv : v = i
    · rw [hv] at h'
      by_cases hl : i < (mendL r0 l vs).length
      · rw [List.getElem?_set_self hl] at h'
        have h2 : heldD r0 i = some x := Option.some.inj h'
        unfold heldD at h2
        split at h2
        · rename_i d e
          cases h2
          exact .inl ⟨by rw [hv]; exact List.mem_cons_self, e, d, rfl⟩
        · cases h2
      · rw [List.getElem?_eq_none (by rw [List.length_set]; omega)] at h'
        cases h'
    · rw [List.getElem?_set_ne hv] at h'
      rcases mendL_some h' with ⟨a, b⟩ | ⟨a, b⟩
      · exact .inl ⟨List.mem_cons_of_mem _ a, b⟩
      · exact .inr ⟨by simp only [List.mem_cons, not_or]; exact ⟨fun z => hv z.symm, a⟩, b⟩
theorem Sim.mend (S0 : Sim K mg am0 Hf0 H0 s0 r0) (p : Stp am0 Hf0 H0 am Hf H) (S : Sim K mg am Hf H s r) {vs : List Nat} (hw : L2.wipe s vs = L2.wipe s0 vs) : Sim K mg am Hf H s0 (r.mend r0 vs) := by
  refine ⟨S.le, S.len, S.nd, S.tr, S.cell, S.ou, fun i x h => ?_, ?_⟩
  · rcases mendL_some h with ⟨h1, h2, d, rfl⟩ | ⟨h1, h2⟩
    · obtain ⟨v, h3, h4⟩ := S0.sl i _ h2
      exact ⟨v, h3, h4.mono p⟩
    · obtain ⟨v, h3, h4⟩ := S.sl i x h2
      refine ⟨v, ?_, h4⟩
      have := (wipe_out (l := s) h1).mpr h3
      rw [hw] at this
      exact (wipe_out h1).mp this
  · show (mendL r0 r.sl vs).length = s0.length
    have e : s.length = s0.length := by
      have := congrArg List.length hw
      rwa [wipe_length, wipe_length] at this
    rw [mendL_len, S.sz, e]
end
def wYes : WT := fun r k _ => k true r
def noX : XQ := fun _ _ => False
def loopC (t : Tg) (wt : WT) (we : WE) (vs : List Nat) (k : List D → Env → Prop) : List D → List D → Env → Prop
  | [], acc, r => k acc r
  | d :: ds, acc, r => asgT t d (r.wipe vs) fun r1 => wt r1 (fun b r2 => match b with
    | true => we r2 (fun y r3 => frz y r3 fun z r4 => acc.length < sizeLine ∧ loopC t wt we vs k ds (acc ++ [z]) r4) noX
    | false => loopC t wt we vs k ds acc r2) noX
def wLc (t : Tg) (wi : WI) (wt : WT) (we : WE) (vs : List Nat) : WL := fun r k x => wi r (fun ds r1 => loopC t wt we vs (fun acc r2 => k acc (r2.mend r1 vs)) ds [] r1) x
abbrev W0 : WX := fun _ _ _ _ => False
theorem xc0 {K : PySem.W.Frag} {mg : Str → Option Value} {am : Am} {Hf H : Hp} {s : L2.St} : XC K mg W0 noX am Hf H s := fun _ _ _ _ _ _ _ _ _ _ _ _ h => h
theorem xs0 {K : PySem.W.Frag} {mg : Str → Option Value} {am : Am} {Hf H : Hp} : XS K mg W0 noX am Hf H := fun _ _ _ _ _ _ _ _ _ _ _ h => h
abbrev STs (X : Cx) (ifs : List Expr) (w : WT) : Prop := PTs X ifs (tT X.K X.mg W0 w)
theorem sts_nil {X : Cx} : STs X [] wYes := ⟨fun pins s σ H Q I h => by
  obtain ⟨am, Hf, r, k, x, S, hw, hk, hx⟩ := h
  exact pts_nil.run pins s σ H Q I (hk true r am Hf H .refl S hw)⟩
theorem sts_one {X : Cx} {c : Expr} {w : WT} (h : ST X W0 c w) : STs X [c] w := pts_one h
theorem lc_of {K : PySem.W.Frag} {mg : Str → Option Value} {W : WX} {t : Tg} {wi : WI} {wt : WT} {we : WE} {vs : List Nat} (ht : ∀ i ∈ t.slots, i ∈ vs) {s : L2.St} {H : Hp} {Q : VK} (h : tL K mg W (wLc t wi wt we vs) s H Q) :
    tLc (tI K mg W wi) (gT K t) (tT K mg W0 wt) (tE K mg W0 we) vs s H Q := by
  obtain ⟨am, Hf, r, k, x, S, hw, hk, hx⟩ := h
  refine ⟨am, Hf, r, _, x, S, hw, fun ds r1 am1 Hf1 H1 J p1 S1 wk q => ?_, hx⟩
  intro D hD
  refine ⟨fun i m H' => i + m = ds.length ∧ ∃ am2 Hf2 r2 s2 acc xs, Stp am1 Hf1 H1 am2 Hf2 H' ∧ Ex Hf1 Hf2 ∧ Sim K mg am2 Hf2 H' s2 r2 ∧ L2.wipe s2 vs = L2.wipe s vs ∧ H' D = some (.lst xs) ∧ Hf2 D = none ∧ D ∉ ad am2 ∧ RpA K Hf2 xs acc ∧
    loopC t wt we vs (fun acc r2 => k acc (r2.mend r1 vs)) (ds.drop i) acc r2, ⟨ds.length, by omega, am1, Hf1, r1, s, [], [], ?_, Evl.Ex.refl _, ?_, rfl, upd_same, ?_, ?_, .nil, q⟩, ?_⟩
  · exact (Grow.lost S1.le hD).stp
  · exact S1.grow (.lost S1.le hD)
  · exact Evl.fresh_back S1.le hD
  · exact fun hm => S1.tr D hm hD
  rintro i m H' ⟨him, am2, Hf2, r2, s2, acc, xs, p2, ex2, S2, hwp, hDx, hDf, hDm, ra, q2⟩
  obtain ⟨w1, w2⟩ := wk i Hf2 H' ex2 S2.le
  cases e : ds[i]? with
  | none =>
    have hl : ds.length ≤ i := List.getElem?_eq_none_iff.mp e
    rw [List.drop_eq_nil_of_le hl] at q2
    refine .inl ⟨w2 (by omega), hk acc _ am2 Hf2 H' D xs (p1.trans p2) (S1.mend p2 S2 hwp) hDx hDf hDm ?_ ra q2⟩
    cases z : H D with
    | none => rfl
    | some o => exact absurd hD (p1.kp D (by rw [z]; simp))
  | some d =>
    have hlt : i < ds.length := (List.getElem?_eq_some_iff.mp e).1
    have ed : ds.drop i = d :: ds.drop (i + 1) := by
      rw [List.drop_eq_getElem_cons hlt]
      congr 1
      exact (List.getElem?_eq_some_iff.mp e).2
    rw [ed] at q2
    obtain ⟨go, y⟩ := w1 d e
    refine .inr ⟨go, fun H3 => ∃ am3 Hf3 r3 s3 acc xs, Stp am1 Hf1 H1 am3 Hf3 H3 ∧ Ex Hf1 Hf3 ∧ Sim K mg am3 Hf3 H3 s3 r3 ∧ L2.wipe s3 vs = L2.wipe s vs ∧ H3 D = some (.lst xs) ∧ Hf3 D = none ∧ D ∉ ad am3 ∧ RpA K Hf3 xs acc ∧
      loopC t wt we vs (fun acc r2 => k acc (r2.mend r1 vs)) (ds.drop (i + 1)) acc r3, fun H3 ⟨am3, Hf3, r3, s3, acc, xs, h⟩ => ⟨m - 1, by omega, by omega, am3, Hf3, r3, s3, acc, xs, h⟩, fun xv H2 hy => ?_⟩
    obtain ⟨Hf4, gr, rv⟩ := y xv H2 hy
    have Sw : Sim K mg am2 Hf4 H2 (L2.wipe s vs) (r2.wipe vs) := by
      rw [← hwp]
      exact (S2.grow gr).wipe vs
    have p4 := p2.trans (gr.stp (am := am2))
    have keepD : ∀ {am5 : Am} {Hf5 H5 : Hp}, Stp am2 Hf4 H2 am5 Hf5 H5 → H5 D = some (.lst xs) ∧ Hf5 D = none ∧ D ∉ ad am5 := fun {am5 Hf5 H5} pp => by
      have h1 : H2 D = some (.lst xs) := gr.lh D _ hDx
      refine ⟨pp.old D _ h1 hDm, ?_, fun hm => ?_⟩
      · cases z : Hf5 D with
        | none => rfl
        | some o =>
          rcases pp.fz D o z with g | g | g
          · rcases gr.fz D o g with g | g
            · rw [hDf] at g
              cases g
            · rw [hDx] at g
              cases g
          · rw [h1] at g
            cases g
          · exact absurd g hDm
      · rcases pp.nw D hm with g | g
        · exact hDm g
        · rw [h1] at g
          cases g
    refine gT_of Sw rv q2 fun s5 r5 S5 hw5 q5 => ?_
    have hw5' : L2.wipe s5 vs = L2.wipe s vs := by
      rw [hw5 vs ht]
      have : ∀ (vs' : List Nat), (∀ i ∈ vs', i ∈ vs) → L2.wipe (L2.wipe s vs) vs' = L2.wipe s vs := by
        intro vs'
        induction vs' with
        | nil => intro _; rfl
        | cons a l ih =>
          intro hh
          show (L2.wipe (L2.wipe s vs) l).set a none = L2.wipe s vs
          rw [ih fun i hi => hh i (List.mem_cons_of_mem _ hi)]
          have ha : a ∈ vs := hh a List.mem_cons_self
          apply List.ext_getElem?
          intro j
          by_cases hj : a = j
          · subst hj
            by_cases hl : a < (L2.wipe s vs).length
            · rw [List.getElem?_set_self hl]
              cases z : (L2.wipe s vs)[a]? with
              | none => exact absurd (List.getElem?_eq_none_iff.mp z) (by omega)
              | some o =>
                cases o with
                | none => rfl
                | some v => exact absurd ha (wipe_some z).2
            · rw [List.getElem?_eq_none (by rw [List.length_set]; omega), List.getElem?_eq_none (by omega)]
          · rw [List.getElem?_set_ne hj]
      exact this vs fun i hi => hi
    refine ⟨hw5', am2, Hf4, r5, _, noX, S5, q5, fun b r6 am6 Hf6 H6 p6 S6 q6 => ?_, xc0⟩
    cases b with
    | false =>
      obtain ⟨k1, k2, k3⟩ := keepD p6
      exact ⟨am6, Hf6, r6, s5, acc, xs, p4.trans p6, (ex2.trans gr.lf).trans p6.le, S6, hw5', k1, k2, k3, (ra.mono gr.lf).mono p6.le, q6⟩
    | true =>
      show tE K mg W0 we s5 H6 _
      refine ⟨am6, Hf6, r6, _, noX, S6, q6, fun y7 r7 am7 Hf7 H7 v7 p7 S7 rr7 q7 => ?_, xc0⟩
      obtain ⟨z, r8, Hf8, p8, S8, rz, hz, q8⟩ := frz_ok S7 rr7 q7
      have p68 := (p6.trans p7).trans p8
      obtain ⟨k1, k2, k3⟩ := keepD p68
      have ra8 : RpA K Hf8 xs acc := (ra.mono gr.lf).mono p68.le
      refine ⟨xs, k1, by rw [ra8.length]; exact hz, am7, Hf8, r8, s5, acc ++ [z], xs ++ [v7], ?_, ((ex2.trans gr.lf).trans p68.le), ?_, hw5', upd_same, k2, k3, ra8.append (.cons rz .nil), q8⟩
      · have pall := p4.trans p68
        refine ⟨pall.pre, pall.nw, pall.le, fun b o hb hn => ?_, pall.fz, fun b hb => ?_⟩
        · have hbD : b ≠ D := fun z => by
            rw [z, hD] at hb
            cases hb
          rw [upd_ne hbD]
          exact pall.old b o hb hn
        · by_cases hbD : b = D
          · rw [hbD, upd_same]
            simp
          · rw [upd_ne hbD]
            exact pall.kp b hb
      · refine ⟨fun b o hb => ?_, S8.len, S8.nd, fun a ha => ?_, fun n a kk es h1 h2 => ?_, S8.ou.mv (Evl.Ex.refl _) (fun n a cn h => by have ne : a ≠ D := (fun z => k3 (z ▸ mem_ad h)); exact upd_ne ne) (fun _ z => z), S8.sl, S8.sz⟩
        · have hbD : b ≠ D := fun z => by
            rw [z, k2] at hb
            cases hb
          rw [upd_ne hbD]
          exact S8.le b o hb
        · by_cases haD : a = D
          · rw [haD, upd_same]
            simp
          · rw [upd_ne haD]
            exact S8.tr a ha
        · obtain ⟨f0, ys, f1, f2⟩ := S8.cell n a kk es h1 h2
          have haD : a ≠ D := fun z => k3 (z ▸ mem_ad h1)
          exact ⟨f0, ys, by rw [upd_ne haD]; exact f1, CellR.mv (Evl.Ex.refl _) (fun _ z => z) (fun _ _ h => h) (fun c hc _ => by have ne : c ≠ D := (fun z => k3 (z ▸ mem_ow hc)); exact upd_ne ne) f2⟩
section
variable {X : Cx} {W : WX} {elt tg iter : Expr} {ifs : List Expr} {scope : Scope} {own : List (Str × Nat)} {pos spos py : Pos} {t : Tg} {wi : WI} {wt : WT} {we : WE}
theorem sl_lc (hc : X.calm = true) (hN : X.N.Nodup) (hi : SI X W tg iter wi) (ok : blkC X.N X.env.scope scope own = true)
    (hg : ∀ (s : Shared) (H : Hp) (C : Addr) (cl : List (Str × Addr)) (fp : List Addr), SG (X.blk s H scope (compEnvC scope cl C X.env) fp) tg t)
    (ht : ∀ (s : Shared) (H : Hp) (C : Addr) (cl : List (Str × Addr)) (fp : List Addr), STs (X.blk s H scope (compEnvC scope cl C X.env) fp) ifs wt)
    (he : ∀ (s : Shared) (H : Hp) (C : Addr) (cl : List (Str × Addr)) (fp : List Addr), SE (X.blk s H scope (compEnvC scope cl C X.env) fp) W0 elt we)
    (hs : ∀ i ∈ t.slots, i ∈ own.map (·.2) := by decide) (hf : ∀ x, foldedSetIterable iter X.env x = pure x := by intro _; rfl) :
    SL X W (.ListComp elt [⟨tg, iter, ifs, 0⟩] scope pos) (wLc t wi wt we (own.map (·.2))) :=
  peI (pe_lc hc hN hi (blkOk_by ok) hg ht he hf) fun s H Q h => lc_of hs h
/-- y = [.. for ..], y a plain local name -/
theorem ps_lc (i : Nat) {y : Str} (hc : X.calm = true) (hN : X.N.Nodup) (hi : SI X W tg iter wi) (ok : blkC X.N X.env.scope scope own = true)
    (hg : ∀ (s : Shared) (H : Hp) (C : Addr) (cl : List (Str × Addr)) (fp : List Addr), SG (X.blk s H scope (compEnvC scope cl C X.env) fp) tg t)
    (ht : ∀ (s : Shared) (H : Hp) (C : Addr) (cl : List (Str × Addr)) (fp : List Addr), STs (X.blk s H scope (compEnvC scope cl C X.env) fp) ifs wt)
    (he : ∀ (s : Shared) (H : Hp) (C : Addr) (cl : List (Str × Addr)) (fp : List Addr), SE (X.blk s H scope (compEnvC scope cl C X.env) fp) W0 elt we)
    (hy : X.N[i]? = some y := by rfl) (hyl : X.env.scope.names.lookup y = some .local := by rfl)
    (hsw : swapsWith (.ListComp elt [⟨tg, iter, ifs, 0⟩] scope pos) (some (.Name y py)) spos.line X.env = pure true)
    (hs : ∀ i ∈ t.slots, i ∈ own.map (·.2) := by decide) (hf : ∀ x, foldedSetIterable iter X.env x = pure x := by intro _; rfl) :
    PS X (.Assign [.Name y py] (.ListComp elt [⟨tg, iter, ifs, 0⟩] scope pos) spos) (tAsg (tL X.K X.mg W (wLc t wi wt we (own.map (·.2)))) (gName i)) :=
  psI (ps_setLc hc hN hy hyl hsw hi (blkOk_by ok) hg ht he hf) fun Z s H h => lc_of hs h
theorem set_of {w : WE} {Z : Ends} {s : L2.St} {H : Hp} (i : Nat) (h : tS X.K X.mg W (wSet i w) Z s H) : tE X.K X.mg W w s H fun x H1 => Z.nx (s.set i (some x)) H1 := by
  obtain ⟨am, Hf, r, p, S, hw, g1, g2, g3, g4, g5⟩ := h
  exact ⟨am, Hf, r, _, p.ex, S, hw, fun y r1 am1 Hf1 H1 v p1 S1 rr q => g1 _ am1 Hf1 H1 _ p1 (S1.set i rr) q, g5.at⟩
theorem ss_lcD {st : Stmt} {w : WL} {i : Nat} (h : PS X st (tAsg (tL X.K X.mg W w) (gName i))) : SS X W st (wSet i (wDat w)) := psI h fun Z s H q => dat_of (X := X) (set_of i q)
end

/-! ### several names at once -/
section
variable {X : Cx} {W : WX} {pos : Pos} {e : Expr} {es : List Expr} {we : WE} {wr : WA}
theorem ss_par3 (i j l : Nat) {x y z : Str} {a b c : Expr} {px py pz pt : Pos} {kt k2 pt2} (ha : SA X W [a, b, c] wr) (hc : X.calm = true) (hN : X.N.Nodup) (hi : X.N[i]? = some x := by rfl) (hj : X.N[j]? = some y := by rfl) (hl : X.N[l]? = some z := by rfl)
    (hij : i ≠ j := by decide) (hil : i ≠ l := by decide) (hjl : j ≠ l := by decide)
    (hx : X.env.scope.names.lookup x = some .local := by rfl) (hy : X.env.scope.names.lookup y = some .local := by rfl) (hz : X.env.scope.names.lookup z = some .local := by rfl)
    (hw : swappedStores [.Tuple [.Name x px, .Name y py, .Name z pz] kt pt] (.Tuple [a, b, c] k2 pt2) X.env = pure (some [x, y, z]) := by rfl)
    (hs : swapsWithSole [.Tuple [.Name x px, .Name y py, .Name z pz] kt pt] (.Tuple [a, b, c] k2 pt2) pos.line X.env = pure false := by rfl) :
    SS X W (.Assign [.Tuple [.Name x px, .Name y py, .Name z pz] kt pt] (.Tuple [a, b, c] k2 pt2) pos) (wPar [i, j, l] wr) := by
  refine psI (ps_par3 hc hN hi hj hl hij hil hjl hx hy hz ha hw hs) fun Z s H h => ?_
  obtain ⟨am, Hf, r, p, S, hw, g1, g2, g3, g4, g5⟩ := h
  refine ⟨am, Hf, r, _, p.ex, S, hw, fun ys r1 am1 Hf1 H1 vs p1 S1 rs q => ?_, g5.at⟩
  obtain ⟨r', S', hlen, q⟩ := putMany_ok S1 rs q
  match vs, hlen, S' with
  | [u, v, w], _, S' => exact ⟨u, v, w, rfl, g1 r' am1 Hf1 H1 _ p1 S' q⟩
/-- a tuple is made and taken apart: the names may hold lists of the store -/
theorem ss_parN {is : List Nat} {tg : Expr} {x1} {pt : Pos} (ha : SA X W es wr) (hg : PG X tg (gTup X.K is.length (gNs is))) (hz : is.length ≤ 1000 := by decide)
    (hs : swapsWithSole [tg] (.Tuple es x1 pt) pos.line X.env = pure false := by rfl) (hw : swappedStores [tg] (.Tuple es x1 pt) X.env = pure none := by rfl) (h1 : (assignEach [tg] X.env).map (·.2) = [assign tg X.env] := by rfl) :
    SS X W (.Assign [tg] (.Tuple es x1 pt) pos) (wPar is wr) := by
  refine psI (ps_asg (pe_tup ha) hg hs hw h1) fun Z s H h => ?_
  obtain ⟨am, Hf, r, p, S, hw, g1, g2, g3, g4, g5⟩ := h
  refine ⟨am, Hf, r, _, p.ex, S, hw, fun ys r1 am1 Hf1 H1 vs p1 S1 rs q => ?_, g5.at⟩
  obtain ⟨r', S', hl, q⟩ := putMany_ok S1 rs q
  refine ⟨by rw [← hl]; exact Nat.le_of_lt (small1000 hz), fun c hc => ?_⟩
  have g : Grow Hf1 H1 Hf1 (upd H1 c (.tup vs)) := .lost S1.le hc
  exact ⟨c, vs, rfl, Evl.st_of upd_same, hl.symm, gNs_of (vs := []) hl (g1 r' am1 Hf1 _ _ (p1.trans g.stp) (S'.grow g) q)⟩
/-- x, y, .. = e, e a tuple of data -/
def wUnp (is : List Nat) (we : WE) : WS := fun r p => we r (fun y r1 => match y with
  | .d d => asgT (.tp is) d r1 p.nx
  | _ => False) p.ex
theorem ss_unp {is : List Nat} {tg : Expr} (he : SE X W e we) (hg : SG X tg (.tp is)) (hs : swapsWithSole [tg] e pos.line X.env = pure false := by rfl) (hw : swappedStores [tg] e X.env = pure none := by rfl) (h1 : (assignEach [tg] X.env).map (·.2) = [assign tg X.env] := by rfl) :
    SS X W (.Assign [tg] e pos) (wUnp is we) := by
  refine psI (ps_asg he hg hs hw h1) fun Z s H h => ?_
  obtain ⟨am, Hf, r, p, S, hw, g1, g2, g3, g4, g5⟩ := h
  refine ⟨am, Hf, r, _, p.ex, S, hw, fun y r1 am1 Hf1 H1 v p1 S1 rr q => ?_, g5.at⟩
  cases y with
  | d d => exact gT_of S1 rr q fun s' r' S' _ q => g1 r' am1 Hf1 H1 s' p1 S' q
  | _ => exact q.elim
end
end Dl

/-! the data layer, part 7: += at a name, stores by place, defs, their calls, raise, the law's end -/
namespace Dl
open PySem
open PySem.Spec
open PyProof.Rows
open L2
open Evl (Ex)

def wAug (g : G2) (i : Nat) (we : WE) : WS := fun r p => wVar i r (fun a _ => we r (fun b r1 => dref a r1 fun da => dref b r1 fun db => g da db fun d => p.nx (r1.put i (.d d))) p.ex) p.ex
def wSetI (wo wi we : WE) : WS := fun r p => we r (fun y r1 => wo r1 (fun o r2 => wi r2 (fun i r3 => isL o fun n => isI i fun z => frz y r3 fun d r4 => lstAt r4 n fun cur => match ixN cur.length z with
  | some j => p.nx (stPut r4 n (cur.set j d))
  | none => False) p.ex) p.ex) p.ex
section
variable {X : Cx} {W : WX} {pos : Pos} {e o i : Expr} {we wo wi : WE}
theorem ss_aug (j : Nat) {x : Str} {op : Operator} {g : G2} {pos' : Pos} (hop : Op2 X (inplaceOp op) g) (he : SE X W e we) (hN : X.N.Nodup) (hi : X.N[j]? = some x := by rfl) (hx : Loc X.env.scope x := by first | exact Or.inl rfl | exact Or.inr rfl) (hf : X.fn x = true ∨ X.env.scope.names.lookup x = some .local := by first | exact .inl rfl | exact .inr rfl | assumption) : SS X W (.AugAssign (.Name x pos') op e pos) (wAug g j we) := by
  obtain ⟨ri, ho, hr⟩ := hop
  refine psI (ps_aug hN hi hx he ho hf) fun Z s H h => ?_
  obtain ⟨am, Hf, r, p, S, hw, g1, g2, g3, g4, g5⟩ := h
  unfold wAug wVar at hw
  cases ea : r.sl[j]? with
  | none => simp [ea] at hw
  | some oy =>
    cases oy with
    | none => simp [ea] at hw
    | some y =>
      simp only [ea] at hw
      obtain ⟨v, h1, h2⟩ := S.sl j y ea
      refine ⟨v, h1, am, Hf, r, _, p.ex, S, hw, fun yb r1 am1 Hf1 H1 vb p1 S1 rb q1 => ?_, g5.at⟩
      obtain ⟨da, rda, q3⟩ := dref_ok S1 (h2.mono p1) q1
      obtain ⟨db, rdb, q4⟩ := dref_ok S1 rb q3
      exact hr _ _ _ _ _ _ _ _ S1.le rda rdb q4 fun vz d Hf' H' gr rp q => g1 _ am1 Hf' H' _ (p1.trans gr.stp) ((S1.grow gr).set j (y := .d d) rp) q
theorem ss_setI {tp : Pos} (he : SE X W e we) (ho : SE X W o wo) (hi : SE X W i wi)
    (ha : ∀ v, assign (.Subscript o i tp) X.env v = (do
      let ov ← holding [v] (eval o X.env)
      let iv ← holding [v, ov] (eval i X.env)
      standAt tp
      holding [v, ov, iv] (setItem ov iv v)
      release [v, ov, iv] []) := by intro _; rfl)
    (hs : swapsWithSole [.Subscript o i tp] e pos.line X.env = pure false := by rfl) (hw : swappedStores [.Subscript o i tp] e X.env = pure none := by rfl) (h1 : (assignEach [.Subscript o i tp] X.env).map (·.2) = [assign (.Subscript o i tp) X.env] := by rfl) :
    SS X W (.Assign [.Subscript o i tp] e pos) (wSetI wo wi we) := by
  refine psI (ps_asg he (pg_sub ho hi set_list ha) hs hw h1) fun Z s H h => ?_
  obtain ⟨am, Hf, r, p, S, hw, g1, g2, g3, g4, g5⟩ := h
  refine ⟨am, Hf, r, _, p.ex, S, hw, fun y r1 am1 Hf1 H1 v p1 S1 rr q => ?_, g5.at⟩
  refine ⟨am1, Hf1, r1, _, p.ex, S1, q, fun yo r2 am2 Hf2 H2 vo p2 S2 ro q => ?_, (g5.next p1).at⟩
  refine ⟨am2, Hf2, r2, _, p.ex, S2, q, fun yi r3 am3 Hf3 H3 vi p3 S3 ri q => ?_, (g5.next (p1.trans p2)).at⟩
  obtain ⟨n, ad, rfl, had, q⟩ := isL_ok (ro.mono p3) q
  obtain ⟨z, rfl, q⟩ := isI_ok ri q
  obtain ⟨d, r4, Hf4, p4, S4, rd, q⟩ := frz_ok S3 ((rr.mono p2).mono p3) q
  obtain ⟨cur, ec, q⟩ := lstAt_ok q
  obtain ⟨_, xs, hx, hxr⟩ := S4.live n ad cur had ec
  cases ej : ixN cur.length z with
  | none =>
    rw [ej] at q
    exact q.elim
  | some j =>
    rw [ej] at q
    obtain ⟨p5, S5⟩ := S4.put had ec (hxr.set j rd)
    exact ⟨ad, xs, z, j, rfl, rfl, hx, by rw [hxr.length]; exact ej, g1 _ am3 Hf4 _ s ((((p1.trans p2).trans p3).trans p4).trans p5) S5 q⟩
end

/-! ### defs -/
abbrev FS := List R → Sto → (R → Sto → Prop) → (Exn → Sto → Prop) → Prop
def spD (K : PySem.W.Frag) (mg : Str → Option Value) (n : Nat) (G : FS) : Sp := fun vs H Q E => ∃ am Hf st ys k x, Sim K mg am Hf H [] ⟨[], st⟩ ∧ Paired (RelR K mg am Hf) vs ys ∧ ys.length = n ∧ G ys st k x ∧
  (∀ y st' am' Hf' H' v, Stp am Hf H am' Hf' H' → Sim K mg am' Hf' H' [] ⟨[], st'⟩ → RelR K mg am' Hf' v y → k y st' → Q v H') ∧
  (∀ e st' am' Hf' H' C d, Stp am Hf H am' Hf' H' → Sim K mg am' Hf' H' [] ⟨[], st'⟩ → ExR K mg Hf' e C d → x e st' → E C d H')
structure FnG (P : Program) (w : World) (K : PySem.W.Frag) (mg : Str → Option Value) (base : Heap) (k : Nat) (f : Addr) (fd : FuncData) (ps : List Str) (G : FS) : Prop where
  run : ∀ (A : Around) (outer : List PySem.Env) (s : Shared) (H : Hp) (args : Args) (us : List Value) (vs : List V) (Q : VK) (E : XK), Room k A → A.guards = some [] → Env0 P w K mg base A outer s H → BindsTo s fd args (ps.zip us) → Vals vs us →
    spD K mg ps.length G vs H Q E → codeAny (model P w) A (.call (.ref f) args) (CR (L2N.CX P w) outer P w H s Q E) s
/-- what a def hands back: lists that it made and left are forgotten; one that it returns is the caller's -/
def fin (m : Nat) (y : R) (st : Sto) (k : R → Sto → Prop) : Prop := match y with
  | .l n => if n < m then k (.l n) (st.take m) else match st[n]? with
    | some (some ds) => k (.l m) (st.take m ++ [some ds])
    | _ => False
  | .o (.ref n cn) => if n < m then k (.o (.ref n cn)) (st.take m) else match st[n]? with
    | some (some ds) => k (.o (.ref m cn)) (st.take m ++ [some ds])
    | _ => False
  | y => k y (st.take m)
def runF (n : Nat) (w : WS) : FS := fun ys st k x => w ⟨ys.map some ++ List.replicate (n - ys.length) none, st⟩
  ⟨fun r => k (.d .none) (r.st.take st.length), fun y r => fin st.length y r.st k, fun _ => False, fun _ => False, fun e r => x e (r.st.take st.length)⟩
section
variable {K : PySem.W.Frag} {mg : Str → Option Value} {am am0 : Am} {Hf H Hf0 H0 : Hp} {s : L2.St} {r : Env} {v : V} {y : R}
theorem Sim.noslots (S : Sim K mg am Hf H s r) : Sim K mg am Hf H [] ⟨[], r.st⟩ := ⟨S.le, S.len, S.nd, S.tr, S.cell, S.ou, fun i x h => by simp at h, rfl⟩
theorem Sim.reslot {st : Sto} (S0 : Sim K mg am0 Hf0 H0 s r) (p : Stp am0 Hf0 H0 am Hf H) (S : Sim K mg am Hf H [] ⟨[], st⟩) : Sim K mg am Hf H s ⟨r.sl, st⟩ :=
  ⟨S.le, S.len, S.nd, S.tr, S.cell, S.ou, fun i x h => by
    obtain ⟨v, h1, h2⟩ := S0.sl i x h
    exact ⟨v, h1, h2.mono p⟩, S0.sz⟩
theorem Stp.cut (p : Stp am0 Hf0 H0 am Hf H) : Stp am0 Hf0 H0 (am.cut am0.pl.length) Hf H ∧ (am.cut am0.pl.length).pl = am0.pl := by
  obtain ⟨⟨t, e⟩, eo⟩ := p.pre
  have e2 : am.pl.take am0.pl.length = am0.pl := by rw [e, List.take_left]
  exact ⟨⟨⟨⟨[], by show am.pl.take _ = _; rw [e2]; simp⟩, eo⟩, fun _ h => p.nw _ (ad_cut h), p.le, p.old, p.fz, p.kp⟩, e2⟩
theorem Sim.cut (S : Sim K mg am Hf H s r) (m : Nat) : Sim K mg (am.cut m) Hf H [] ⟨[], r.st.take m⟩ := by
  refine ⟨S.le, ?_, nd_cut S.nd, fun a ha => S.tr a (ad_cut ha), fun n a kk ds h1 h2 => ?_, S.ou.cut m, fun i x h => by simp at h, rfl⟩
  · show (r.st.take m).length = (am.pl.take m).length
    rw [List.length_take, List.length_take, S.len]
  · have h2' : (r.st.take m)[n]? = some (some ds) := h2
    have h1 : (am.pl.take m)[n]? = some (a, kk) := h1
    have hn : n < m := by
      have := (List.getElem?_eq_some_iff.mp h1).1
      rw [List.length_take] at this
      omega
    rw [List.getElem?_take_of_lt hn] at h1 h2'
    exact S.cell n a kk ds h1 h2'
/-- one more place, taken from behind the cut -/
theorem move_ok {st0 : Sto} {n : Nat} {a : Addr} {kk : Kd} {ds : List D} (hl : am0.pl.length = st0.length) (p : Stp am0 Hf0 H0 am Hf H) (S : Sim K mg am Hf H s r) (ha : am.pl[n]? = some (a, kk)) (hn : ¬ n < st0.length) (e : r.st[n]? = some (some ds)) :
    ∃ am', Stp am0 Hf0 H0 am' Hf H ∧ Sim K mg am' Hf H [] ⟨[], r.st.take st0.length ++ [some ds]⟩ ∧ am'.pl[st0.length]? = some (a, kk) := by
  obtain ⟨p1, e1⟩ := p.cut
  have S1 := S.cut am0.pl.length
  obtain ⟨h0, o, h2, h3⟩ := S.cell n a kk ds ha e
  have hna : a ∉ ad (am.cut am0.pl.length) := fun hm => by
    rcases List.mem_append.mp hm with hm | hm
    · rw [e1] at hm
      obtain ⟨q, hq, hqa⟩ := List.mem_map.mp hm
      obtain ⟨i, hi⟩ := List.getElem?_of_mem hq
      obtain ⟨⟨t, et⟩, _⟩ := p.pre
      have hi2 : am.pl[i]? = some q := by
        rw [et, List.getElem?_append_left (List.getElem?_eq_some_iff.mp hi).1]
        exact hi
      have hq2 : q = (a, q.2) := Prod.ext hqa rfl
      rw [hq2] at hi2
      have : i = n := nd_ad S.nd hi2 ha
      have := (List.getElem?_eq_some_iff.mp hi).1
      omega
    · exact nd_ow S.nd ha hm rfl
  have hnew : H0 a = none := by
    rcases p.nw a (mem_ad ha) with z | z
    · refine absurd ?_ hna
      rcases List.mem_append.mp z with z | z
      · refine List.mem_append_left _ ?_
        rw [e1]
        exact z
      · exact mem_ow (p.pre.2 a z)
    · exact z
  have hlc : (am.cut am0.pl.length).pl.length = st0.length := by rw [e1]; exact hl
  refine ⟨(am.cut am0.pl.length).add a kk, ⟨⟨⟨[(a, kk)], by show (am.cut am0.pl.length).pl ++ _ = _; rw [e1]⟩, p.pre.2⟩, fun b hb => ?_, p.le, p.old, p.fz, p.kp⟩, ⟨S.le, ?_, nd_add S1.nd hna, fun b hb => ?_, fun m b k2 es g1 g2 => ?_, ?_, fun i x h => by simp at h, rfl⟩, ?_⟩
  · rcases ad_add.mp hb with hb | hb
    · exact p1.nw b hb
    · rw [hb]
      exact .inr hnew
  · show (r.st.take st0.length ++ [some ds]).length = ((am.cut am0.pl.length).pl ++ [(a, kk)]).length
    have := S1.len
    have e3 : (r.st.take am0.pl.length).length = (am.cut am0.pl.length).pl.length := this
    rw [List.length_append, List.length_append, ← hl, e3]
    rfl
  · rcases ad_add.mp hb with hb | hb
    · exact S1.tr b hb
    · rw [hb, h2]
      simp
  · have g2' : (r.st.take st0.length ++ [some ds])[m]? = some (some es) := g2
    have g1 : ((am.cut am0.pl.length).pl ++ [(a, kk)])[m]? = some (b, k2) := g1
    have e3 : (r.st.take st0.length).length = st0.length := by
      have := S1.len
      have e4 : (r.st.take am0.pl.length).length = (am.cut am0.pl.length).pl.length := this
      rw [← hl, e4, e1]
    by_cases hm : m < st0.length
    · rw [List.getElem?_append_left (by rw [hlc]; exact hm)] at g1
      rw [List.getElem?_append_left (by rw [e3]; exact hm)] at g2'
      rw [← hl] at g2'
      exact S1.cell m b k2 es g1 g2'
    · have hm3 : m = st0.length := by
        have hm2 := (List.getElem?_eq_some_iff.mp g1).1
        rw [List.length_append, hlc] at hm2
        have : [(a, kk)].length = 1 := rfl
        omega
      rw [hm3, List.getElem?_append_right (by rw [hlc]; exact Nat.le_refl _), hlc, Nat.sub_self] at g1
      rw [hm3, List.getElem?_append_right (by rw [e3]; exact Nat.le_refl _), e3, Nat.sub_self] at g2'
      have ed : ds = es := by simpa using g2'
      obtain ⟨ea, ek⟩ := Prod.mk.inj (Option.some.inj g1)
      rw [← ea, ← ek, ← ed]
      exact ⟨h0, o, h2, h3⟩
  · have key : ∀ (i : Nat) (b : Addr) (cn : Str), Lv (r.st.take st0.length ++ [some ds]) i → ((am.cut am0.pl.length).add a kk).pl[i]? = some (b, .ins cn) → ∃ i', am.pl[i']? = some (b, .ins cn) ∧ (i' = if i < st0.length then i else n) ∧ i ≤ st0.length ∧ Lv r.st i' := fun i b cn l h => by
      have h : ((am.cut am0.pl.length).pl ++ [(a, kk)])[i]? = some (b, .ins cn) := h
      by_cases hi : i < st0.length
      · rw [List.getElem?_append_left (by rw [hlc]; exact hi)] at h
        have h : (am.pl.take am0.pl.length)[i]? = some (b, .ins cn) := h
        rw [List.getElem?_take_of_lt (by omega)] at h
        exact ⟨i, h, by rw [if_pos hi], by omega, (l.left (by
          have e4 : (r.st.take am0.pl.length).length = (am.cut am0.pl.length).pl.length := S1.len
          rw [← hl, e4, e1, hl]
          exact hi)).take⟩
      · rw [List.getElem?_append_right (by rw [hlc]; omega), hlc] at h
        have h0 : i - st0.length = 0 := by
          have := (List.getElem?_eq_some_iff.mp h).1
          simp at this
          omega
        rw [h0] at h
        have h : some (a, kk) = some (b, .ins cn) := h
        rw [← h]
        exact ⟨n, ha, by rw [if_neg hi], by omega, ⟨ds, e⟩⟩
    intro i i' b b' cn cn' C dx C' dx' fs fs' j j' f f' c hc hn0 l1 l2 h1 h2 h3 h4 h5 h6
    obtain ⟨u, k1, k2, k3, k4⟩ := key _ _ _ l1 h1
    obtain ⟨u', k1', k2', k3', k4'⟩ := key _ _ _ l2 h4
    obtain ⟨r1, r2⟩ := S.ou u u' b b' cn cn' C dx C' dx' fs fs' j j' f f' c hc hn0 k4 k4' k1 h2 h3 k1' h5 h6
    refine ⟨?_, r2⟩
    rw [k2, k2'] at r1
    split at r1 <;> split at r1 <;> omega
  · show ((am.cut am0.pl.length).pl ++ [(a, kk)])[st0.length]? = _
    rw [List.getElem?_append_right (by rw [hlc]; exact Nat.le_refl _), hlc, Nat.sub_self]
    rfl
theorem fin_ok {st0 : Sto} {k : R → Sto → Prop} {Q : VK} (hl : am0.pl.length = st0.length) (p : Stp am0 Hf0 H0 am Hf H) (S : Sim K mg am Hf H s r) (rr : RelR K mg am Hf v y) (h : fin st0.length y r.st k)
    (hk : ∀ y st' am' Hf' H' v, Stp am0 Hf0 H0 am' Hf' H' → Sim K mg am' Hf' H' [] ⟨[], st'⟩ → RelR K mg am' Hf' v y → k y st' → Q v H') : Q v H := by
  obtain ⟨p1, e1⟩ := p.cut
  have S1 := S.cut am0.pl.length
  have small : ∀ (n : Nat) (q : Addr × Kd), am.pl[n]? = some q → n < st0.length → (am.cut am0.pl.length).pl[n]? = some q := fun n q h hn => by
    show (am.pl.take am0.pl.length)[n]? = _
    rw [List.getElem?_take_of_lt (by omega)]
    exact h
  cases y with
  | d x => exact hk (.d x) _ _ _ _ v p1 S1 rr (by rw [hl]; exact h)
  | o b =>
    cases b with
    | ref n cn =>
      obtain ⟨a, rfl, ha⟩ := rr
      unfold fin at h
      dsimp only at h
      by_cases hn : n < st0.length
      · rw [if_pos hn] at h
        exact hk (.o (.ref n cn)) _ _ _ _ _ p1 S1 ⟨a, rfl, small _ _ ha hn⟩ (by rw [hl]; exact h)
      · rw [if_neg hn] at h
        split at h
        · rename_i ds e
          obtain ⟨am', p2, S2, h2⟩ := move_ok hl p S ha hn e
          exact hk (.o (.ref st0.length cn)) _ _ _ _ _ p2 S2 ⟨a, rfl, h2⟩ h
        · exact h.elim
    | exc e => exact hk (.o (.exc e)) _ _ _ _ v p1 S1 rr (by rw [hl]; exact h)
    | cls e => exact hk (.o (.cls e)) _ _ _ _ v p1 S1 rr (by rw [hl]; exact h)
    | scr e => exact hk (.o (.scr e)) _ _ _ _ v p1 S1 rr (by rw [hl]; exact h)
  | l n =>
    obtain ⟨a, rfl, ha⟩ := rr
    unfold fin at h
    dsimp only at h
    by_cases hn : n < st0.length
    · rw [if_pos hn] at h
      exact hk (.l n) _ _ _ _ _ p1 S1 ⟨a, rfl, small _ _ ha hn⟩ (by rw [hl]; exact h)
    · rw [if_neg hn] at h
      split at h
      · rename_i ds e
        obtain ⟨am', p2, S2, h2⟩ := move_ok hl p S ha hn e
        exact hk (.l st0.length) _ _ _ _ _ p2 S2 ⟨a, rfl, h2⟩ h
      · exact h.elim
end
section
variable {P : Program} {w : World} {K : PySem.W.Frag} {mg : Str → Option Value} {base : Heap}
/-- a def by its body -/
theorem fnG_of {x qual : Str} {st : Stmt} {f : Addr} {fd : FuncData} {N ps : List Str} {k : Nat} {ws : WS} (F : Fun K x qual st f fd) (S : FnScope N ps (defScope st))
    (hbody : ∀ (cdv : Value) (A : Around) (outer : List PySem.Env) (s : Shared) (H : Hp) (E : XK), Room k (A.deeper (envOfC qual (defScope st) s.heap.objs.size f cdv)) → A.guards = some [] →
      SB (cxOf (L2N.CX P w) P w K mg base N qual (defScope st) f cdv A outer s H E) (fun C d _ H => E C d H) (defBody st) ws) : FnG P w K mg base (k + 1) f fd ps (runF N.length ws) := by
  obtain ⟨oc, od, kV, doc, pm, an, cdv, ct, osl, rfl, lk, hcd⟩ := F.ex
  refine ⟨fun A outer s H args us vs Q E hr hgd e0 hb r hsp => ?_⟩
  obtain ⟨am, Hf, st0, ys, kk, xx, S0, rs, hlen, hG, hk, hx⟩ := hsp
  have hl : vs.length = ps.length := (pairLen rs).trans hlen
  have KX : K.In s.heap := e0.mod.kin.keeps fun b o e => (e0.bs b o e).1
  have lim : s.heap.NoLimit := e0.mod.nolimit.keeps fun b o e => (e0.bs b o e).1
  have hkind : ∀ y ∈ ps.zip us, (defScope st).names.lookup y.1 = some .local ∨ ((defScope st).names.lookup y.1 = some .cell ∧ ((cellsFrom (s.heap.objs.size + 1) (defScope st).names []).lookup y.1).isSome = true) := fun ⟨n, v⟩ hy =>
    (S.par n (List.of_mem_zip hy).1).elim .inl fun q => .inr ⟨q, PySem.W.cellsFrom_some _ _ _ (.inl q)⟩
  refine codeAny_call_function hr.depth (KX _ _ lk) rfl S.co S.gen rfl (PySem.W.codeRec_of KX hcd) (hb _ _ _ _ (wpAny_newFunctionEnv_cells S.kind hkind fun env he s1 ic => ?_))
  subst he
  have J0 : Inv (cxOf (L2N.CX P w) P w K mg base N qual (defScope st) f cdv A outer s H E) [] (L2.start N vs) H s1 := inv_start S hr.hd e0 hl r ic
  have T := (hbody cdv A outer s H E (hr.deeper _) hgd).run [] s1 (L2.start N vs) H { nx := fun _ H' => Q .non H', rt := Q } J0
  have lenS : am.pl.length = st0.length := S0.len.symm
  have hys : ys.length = vs.length := (pairLen rs).symm
  have Sst : Sim K mg am Hf H (L2.start N vs) ⟨ys.map some ++ List.replicate (N.length - ys.length) none, st0⟩ := by
    refine ⟨S0.le, S0.len, S0.nd, S0.tr, S0.cell, S0.ou, fun i z h => ?_, ?_⟩
    · have h' : (ys.map some ++ List.replicate (N.length - ys.length) none)[i]? = some (some z) := h
      by_cases hi : i < ys.length
      · rw [List.getElem?_append_left (by rw [List.length_map]; exact hi), List.getElem?_map] at h'
        cases e : ys[i]? with
        | none =>
          rw [e] at h'
          cases h'
        | some y =>
          rw [e] at h'
          have ey : y = z := by simpa using h'
          rw [← ey]
          have go : ∀ {vs : List V} {ys : List R} {i : Nat} {y : R}, Paired (RelR K mg am Hf) vs ys → ys[i]? = some y → ∃ v, vs[i]? = some v ∧ RelR K mg am Hf v y := by
            intro vs ys i y r
            induction r generalizing i with
            | nil => intro e; cases e
            | cons h t ih =>
              intro e
              cases i with
              | zero =>
                cases e
                exact ⟨_, rfl, h⟩
              | succ i => exact ih (i := i) e
          obtain ⟨v, h1, h2⟩ := go rs e
          refine ⟨v, ?_, h2⟩
          unfold L2.start
          rw [List.getElem?_append_left (by rw [List.length_map]; omega), List.getElem?_map, h1]
          rfl
      · rw [List.getElem?_append_right (by rw [List.length_map]; omega), List.getElem?_replicate] at h'
        split at h' <;> cases h'
    · show (ys.map some ++ List.replicate (N.length - ys.length) none).length = (L2.start N vs).length
      unfold L2.start
      simp only [List.length_append, List.length_map, List.length_replicate]
      omega
  have R0 := T ⟨am, Hf, _, _, Sst, hG, fun r' am' Hf' H' s' p S' q => by
      obtain ⟨p1, _⟩ := p.cut
      refine hk (.d .none) _ _ _ _ _ p1 (S'.cut am.pl.length) Rp.non ?_
      rw [lenS]
      exact q, fun y r' am' Hf' H' s' v p S' rr q => fin_ok lenS p S' rr q hk, fun _ _ _ _ _ _ _ q => q.elim, fun _ _ _ _ _ _ _ q => q.elim, fun e r' am' Hf' H' s' C d p S' er q => by
      obtain ⟨p1, _⟩ := p.cut
      refine hx e _ _ _ _ _ _ p1 (S'.cut am.pl.length) er ?_
      rw [lenS]
      exact q⟩
  refine ⟨lim.keeps ic.toInCall.keep, codeAny_func (wpAny_mono R0 (fun fl s' hs => ?_) fun e s' hs => hs)⟩
  cases fl with
  | ret u =>
    obtain ⟨v, σ', H', J, rv, q⟩ := hs
    exact ⟨v, H', J.os, J.bare, J.base, J.hok, rv, q⟩
  | next =>
    obtain ⟨σ', H', J, q⟩ := hs
    exact ⟨V.non, H', J.os, J.bare, J.base, J.hok, rfl, q⟩
  | brk =>
    obtain ⟨_, _, _, q⟩ := hs
    exact q.elim
  | cont =>
    obtain ⟨_, _, _, q⟩ := hs
    exact q.elim
theorem FnG.mono {j k : Nat} {f : Addr} {fd : FuncData} {ps : List Str} {G : FS} (F : FnG P w K mg base j f fd ps G) (h : j ≤ k) : FnG P w K mg base k f fd ps G := ⟨fun A outer s H args us vs Q E hr => F.run A outer s H args us vs Q E (hr.mono h)⟩
end

/-! ### calls of defs -/
def wCall (n : Nat) (G : FS) (wr : WA) : WE := fun r k x => wr r (fun ys r1 => ys.length = n ∧ G ys r1.st (fun y st' => k y ⟨r1.sl, st'⟩) (fun e st' => x e ⟨r1.sl, st'⟩)) x
/-- keywords: the values in the parameters' order -/
def pick {α : Type} (o : List Nat) (l : List α) : List α := o.filterMap fun i => l[i]?
def wCallK (n : Nat) (G : FS) (o : List Nat) (wr wk : WA) : WE := fun r k x => wr r (fun ys r1 => wk r1 (fun zs r2 => (pick o (ys ++ zs)).length = n ∧ G (pick o (ys ++ zs)) r2.st (fun y st' => k y ⟨r2.sl, st'⟩) (fun e st' => x e ⟨r2.sl, st'⟩)) x) x
section
variable {X : Cx} {W : WX} {k : Nat} {f : Addr} {fd : FuncData} {ps ks : List Str} {G : FS} {x : Str} {p pos kpos : Pos} {e : Expr} {es : List Expr} {kws : List Keyword} {wr wk : WA} {we : WE} {nm : Option Str}
/-- the callee runs -/
theorem run_G {pins : List (Addr × Obj)} {σ : L2.St} {s : Shared} {H : Hp} {am : Am} {Hf : Hp} {r : Env} {vs : List V} {ys : List R} {args : Args} {us : List Value} {kk : KE} {xx : XQ} {Q : VK} (F : FnG X.prog X.w X.K X.mg X.base k f fd ps G) (hr : Room k X.A) (hgd : X.A.guards = some []) (tk : L2N.Takes X W)
    (I : Inv X pins σ H s) (S : Sim X.K X.mg am Hf H σ r) (rv : Vals vs us) (rs : Paired (RelR X.K X.mg am Hf) vs ys) (hb : BindsTo s fd args (ps.zip us)) (hl : ys.length = ps.length)
    (h : G ys r.st (fun y st' => kk y ⟨r.sl, st'⟩) (fun e st' => xx e ⟨r.sl, st'⟩))
    (hk : ∀ y r' am' Hf' H' v, Stp am Hf H am' Hf' H' → Sim X.K X.mg am' Hf' H' σ r' → RelR X.K X.mg am' Hf' v y → kk y r' → Q v H') (hx : XC X.K X.mg W xx am Hf H σ) :
    codeAny (model X.prog X.w) X.A (.call (.ref f) args) (fun rr s' => match rr with
      | .ok (.ret u) => EP X pins σ Q u s'
      | .ok _ => False
      | .error e => X.xe e s') s := by
  refine codeAny_mono (F.run X.A X.stack s H args us vs Q (fun C d H' => W C d σ H') hr hgd I.env0 hb rv ⟨am, Hf, r.st, ys, _, _, S.noslots, rs, hl, h, fun y st' am' Hf' H' v p S' rr q => hk y _ am' Hf' H' v p (S.reslot p S') rr q, fun e st' am' Hf' H' C d p S' er q => hx e _ am' Hf' H' σ C d p (S.reslot p S') rfl er q⟩) fun rr s' hq => ?_
  cases rr with
  | error e => exact L2N.passAt tk σ pins H s e s' I hq
  | ok fl =>
    cases fl with
    | ret u => exact I.after hq
    | next => exact False.elim hq
    | brk => exact False.elim hq
    | cont => exact False.elim hq
theorem se_call (F : FnG X.prog X.w X.K X.mg X.base k f fd ps G) (hr : Room k X.A) (hgd : X.A.guards = some []) (tk : L2N.Takes X W) (hm : X.mg x = some (.ref f)) (hkp : PySem.W.keepIn X.K (.ref f) = true) (hb : Binds X.K fd ps []) (ha : SA X W (e :: es) wr) (hg : Gl X x := by rfl)
    (hdb : (x == ("__debug__" : Str)) = false := by decide) (he : starEach (e :: es) X.env = (false, eval e X.env) :: starEach es X.env := by rfl) (hpl : (backTo pos (starEach es X.env)).any (·.1) = false := by rfl) :
    SE X W (.Call (.Name x p) (e :: es) [] pos) (wCall ps.length G wr) := by
  refine ⟨fun pins s σ H Q I h => ?_⟩
  obtain ⟨am, Hf, r, kk, xx, S, hw, hk, hx⟩ := h
  refine wpAny_Call_Name_kw (ld_glob I hg hm ?_ hdb)
  refine PySem.W.callWith_K (h₀ := X.base) I.ok.mod.kin hkp (thn (ha.run pos pins s σ H (fun vs H1 => ∃ ys r1 am1 Hf1, Stp am Hf H am1 Hf1 H1 ∧ Sim X.K X.mg am1 Hf1 H1 σ r1 ∧ Paired (RelR X.K X.mg am1 Hf1) vs ys ∧ ys.length = ps.length ∧ G ys r1.st (fun y st' => kk y ⟨r1.sl, st'⟩) (fun e st' => xx e ⟨r1.sl, st'⟩)) I
    ⟨am, Hf, r, _, xx, S, hw, fun ys r1 am1 Hf1 H1 vs p1 S1 rs q => ⟨ys, r1, am1, Hf1, p1, S1, rs, q⟩, hx⟩) fun us s1 ⟨vs, H1, I1, rv, ys, r1, am1, Hf1, p1, S1, rs, hl, q⟩ => ⟨I1.kIn, ?_⟩) he hpl
  have hlu : (us ++ []).length = ps.length := by rw [List.append_nil, ← rv.length, pairLen rs, hl]
  have hbb := hb s1 us I1.kIn hlu
  rw [List.append_nil] at hbb
  refine wpAny_call (codeAny_mono (run_G F hr hgd tk I1 S1 rv rs hbb hl q (fun y r' am' Hf' H' v p S' rr q => hk y r' am' Hf' H' v (p1.trans p) S' rr q) (hx.next p1)) fun rr s' hq => ?_)
  cases rr with
  | error e => exact hq
  | ok fl =>
    cases fl with
    | ret u => exact hq
    | next => exact False.elim hq
    | brk => exact False.elim hq
    | cont => exact False.elim hq
end
end Dl

/-! the data layer, part 8: calls by keywords, raise, the law's end -/
namespace Dl
open PySem
open PySem.Spec
open PyProof.Rows
open L2
open Evl (Ex)
section
variable {X : Cx} {W : WX} {k : Nat} {f : Addr} {fd : FuncData} {ps ks : List Str} {G : FS} {x : Str} {p pos kpos : Pos} {e : Expr} {es : List Expr} {kws : List Keyword} {wr wk : WA} {we : WE} {o : List Nat}
/-- keywords alone -/
def wCallK0 (n m : Nat) (G : FS) (o : List Nat) (wk : WA) : WE := fun r k x => wk r (fun zs r2 => zs.length = m ∧ (pick o zs).length = n ∧ G (pick o zs) r2.st (fun y st' => k y ⟨r2.sl, st'⟩) (fun e st' => x e ⟨r2.sl, st'⟩)) x
/-! ### raise X(), X without an __init__ of its own -/
theorem pmk_own0 {C : Addr} {bmB : List Value} {B newId initId : String} (F : ExcBaseFacts B newId initId bmB) (q : PySem.W.excIn X.K C bmB newId = true) (gC : X.mg x = some (.ref C)) (kC : PySem.W.keepIn X.K (.ref C) = true) (r : Raises X (.ref C)) (hg : Gl X x)
    (hdb : (x == ("__debug__" : Str)) = false := by decide) : L2N.PMk X (.Call (.Name x p) [] [] pos) (fun _ H Q => Q (.ref C) none H) := by
  intro pins s σ H Q I h
  refine wpAny_Call_Name_kw (ld_glob I hg gC (PySem.W.callWith_K0 I.kIn kC ?_) hdb)
  show wpAny _ _ (call (.ref C) []) _ _ _
  obtain ⟨bm, N, nm, qn, bs, hdct, sn, sub, ab, col, dd, k0, k1, k2, k3, k5, mN, hC, hN, hni, T⟩ := exc_obj I.kIn q
  exact wpAny_call_exc_subT F T hC hN hni (fun h' e hm => L2N.mk_of I hm r h (I.hok.gone hm.new)) (Nat.zero_le _)
def wRaise (cn : Str) : WS := fun r p => p.ex ⟨cn, []⟩ r
theorem ss_raise0 {C : Addr} {bmB : List Value} {B newId initId : String} {pos2 : Pos} (F : ExcBaseFacts B newId initId bmB) (q : PySem.W.excIn X.K C bmB newId = true) (gC : X.mg x = some (.ref C)) (kC : PySem.W.keepIn X.K (.ref C) = true)
    (r1 : PySem.W.subIn X.K (.ref C) (.type "BaseException") = some true) (r2 : PySem.W.typeIn X.K (.ref C) = some (.type "type")) (tk : L2N.Takes X W) (hc : X.calm = true := by rfl) (hg : Gl X x := by rfl) (hdb : (x == ("__debug__" : Str)) = false := by decide) :
    SS X W (.Raise (some (.Call (.Name x p) [] [] pos)) none pos2) (wRaise x) := by
  refine psI (L2N.ps_raise hc tk (pmk_own0 F q gC kC (raises_own r1 r2) hg hdb)) fun Z s H h => ?_
  obtain ⟨am, Hf, r, p, S, hw, g1, g2, g3, g4, g5⟩ := h
  exact g5 ⟨x, []⟩ r am Hf H s _ _ .refl S ⟨C, gC, rfl, .inl ⟨rfl, rfl⟩⟩ hw
end

/-! ### the law's end -/
/-- the heap behind the top, with the script known to the object (or an object of the module) -/
theorem law_go {P : Program} {w : World} {K : PySem.W.Frag} {mg mb : Str → Option Value} {k : Nat} {fa a : Addr} {fd : FuncData} {sc : Str} {G : FS} {z : Shared} {vs : List Value} {ns : List Int}
    (KX : K.In z.heap) (hns : z.heap.Ns mainGlobals mg) (hb : z.heap.Ns builtinsNs mb) (hbb : ∀ n : Str, n ≠ "__name__" → mb n = bootBuiltins n) (hlim : z.heap.NoLimit) (hgen : z.gens = #[])
    (ha : z.heap.get? a = some { cls := .type "list", data := .seq vs.toArray }) (hi : IntsAre vs ns) (hl : ns.length ≤ sizeLine) (hr : Room k callerA)
    (F : ∀ base : Heap, K.In base → base.Ns mainGlobals mg → FnG P w K mg base k fa fd [sc] G) (hbind : ∀ (s : Shared) (u : Value), BindsTo s fd ⟨[u], []⟩ [(sc, u)])
    (hG : G [.o (.scr ns)] [] (fun y _ => y = .d (.bool true)) (fun _ _ => False)) :
    codeAny (model P w) callerA (.call (.ref fa) ⟨[.ref a], []⟩) (fun r s' => r = .ok (.ret (.bool true)) ∧ OldK z.heap s'.heap ∧ s'.os = z.os ∧ AllBare s'.gens) z := by
  have rv := vals_ints hi
  have go : ∀ H : Hp, (∀ b o, H b = some o → b = a ∧ o = .frz { cls := .type "list", data := .seq vs.toArray } (.lst (ns.map V.int)) ∧ K.lookup a = none) → SqL K H a (ns.map V.int) → HOk P w H z.heap →
      codeAny (model P w) callerA (.call (.ref fa) ⟨[.ref a], []⟩) (fun r s' => r = .ok (.ret (.bool true)) ∧ OldK z.heap s'.heap ∧ s'.os = z.os ∧ AllBare s'.gens) z := by
    intro H hH hS hok
    have off : ∀ {b : Addr} {o : Obj}, z.heap.get? b = some o → (∀ n, o.data ≠ .seq vs.toArray n) → H b = none := fun {b o} e d => by
      cases q : H b with
      | none => rfl
      | some u =>
        obtain ⟨e1, _⟩ := hH b u q
        rw [e1, ha] at e
        cases e
        exact absurd rfl (d _)
    have ns' : ∀ {b : Addr} {m : Str → Option Value}, z.heap.Ns b m → (hidT z.heap H).Ns b m := fun ⟨o, es, ep, e, d, r⟩ => ⟨o, es, ep, hidT_get e (off e fun n q => by rw [d] at q; cases q), d, r⟩
    have kin : K.In (hidT z.heap H) := fun b o e => hidT_get (KX b o e) (by
      cases q : H b with
      | none => rfl
      | some u =>
        obtain ⟨e1, _, e3⟩ := hH b u q
        rw [e1, e3] at e
        cases e)
    obtain ⟨mc, c1, c2⟩ := hlim
    have E0 : Env0 P w K mg (hidT z.heap H) callerA [] z H := ⟨rfl, ⟨kin, ns' hns, ⟨mb, ns' hb, hbb⟩, ⟨mc, ns' c1, c2⟩⟩, fun b o e => of_hidT e, Nat.le_of_eq (hidT_size _ _), trivial, fun b q => (by cases q), hok, .of_eq hgen⟩
    have S0 : Sim K mg ⟨[], []⟩ H H [] ⟨[], []⟩ := ⟨Evl.Ex.refl _, rfl, List.nodup_nil, fun b q => (by have q : b ∈ ([] : List Addr) := q; cases q), fun n b k ds q => (by have q : ([] : List (Addr × Kd))[n]? = some (b, k) := q; simp at q), (by intro n n' a a' cn cn' C dx C' dx' fs fs' j j' f f' b hb; have hb : b ∈ ([] : List Addr) := hb; cases hb), fun i x q => (by simp at q), rfl⟩
    refine codeAny_mono ((F _ kin (ns' hns)).run callerA [] z H ⟨[.ref a], []⟩ [.ref a] [.ref a] (fun v _ => v = .bl true) (fun _ _ _ => False) hr rfl E0 (hbind z (.ref a)) (.cons rfl .nil)
      ⟨⟨[], []⟩, H, [], [.o (.scr ns)], _, _, S0, .cons ⟨a, rfl, hS⟩ .nil, rfl, hG, fun y st' am' Hf' H' v _ _ rr e => by
        subst e
        cases rr
        rfl, fun _ _ _ _ _ _ _ _ _ _ e => e⟩) fun r s' h => ?_
    cases r with
    | error e =>
      obtain ⟨_, _, _, _, _, _, _, _, _, _, _, _, q⟩ := h
      exact q.elim
    | ok fl =>
      cases fl with
      | ret u =>
        obtain ⟨v, H', os, bare, un, hok', r', q⟩ := h
        subst q
        obtain rfl : u = Value.bool true := r'
        refine ⟨rfl, OldK.of_keep fun b o e => ?_, os, bare⟩
        cases q : H b with
        | none => exact un.keep b o e q (fun m => by cases m) fun m => by cases m
        | some u =>
          obtain ⟨e1, e2, _⟩ := hH b u q
          rw [e1, ha] at e
          rw [e2] at q
          obtain ⟨g, _⟩ := hok' b _ (un.frzs b _ _ q)
          rw [g]
          exact e
      | next => exact False.elim h
      | brk => exact False.elim h
      | cont => exact False.elim h
  cases hk : K.lookup a with
  | some o =>
    have e := KX a o hk
    rw [ha] at e
    cases e
    exact go (fun _ => none) (fun b o q => by cases q) (.inr ⟨_, vs.toArray, _, hk, rfl, rfl, rfl, by rw [List.size_toArray, hi.length]; exact hl, by simpa using rv⟩) fun b o q => by cases q
  | none =>
    have at1 : ∀ b u, (fun b => if b = a then some (HO.frz { cls := .type "list", data := .seq vs.toArray } (.lst (ns.map V.int))) else none : Hp) b = some u → b = a ∧ u = HO.frz { cls := .type "list", data := .seq vs.toArray } (.lst (ns.map V.int)) := fun b u q => by
      by_cases hb : b = a
      · exact ⟨hb, (Option.some.inj ((if_pos hb).symm.trans q)).symm⟩
      · have q' := (if_neg hb).symm.trans q
        cases q'
    refine go _ (fun b u q => ⟨(at1 b u q).1, (at1 b u q).2, hk⟩) (.inl (.inr ⟨_, if_pos rfl⟩)) fun b u q => ?_
    obtain ⟨rfl, rfl⟩ := at1 b u q
    exact ⟨ha, by rw [List.length_map]; exact hl, vs, _, rv, ha⟩
theorem law_end {l : PySem.W.OpenLaw} {n k : Nat} {q : Program} {loose : List Str} {XP : (Str → Option Value) → Heap → Prop} {YP : World → Heap → Prop} {d : PySem.DefRec} {K : Params → PySem.W.Frag} {sc : Str} {G : World → FS}
    (hn : l.most = some n) (hn2 : n ≤ sizeLine) (hdf : d.params.defaults = []) (hr : Room k callerA)
    (hY : ∀ (w : World) (h : Heap), YP w h → (K w.params).In h)
    (F : ∀ (w : World) (mg : Str → Option Value) (fa : Addr) (h : Heap), (K w.params).In h → h.Ns mainGlobals mg → mg d.name = some (.ref fa) →
      ∃ fd : FuncData, (∀ (s : Shared) (u : Value), BindsTo s fd ⟨[u], []⟩ [(sc, u)]) ∧
        ∀ base : Heap, (K w.params).In base → base.Ns mainGlobals mg → FnG l.prog w (K w.params) mg base k fa fd [sc] (G w))
    (hG : ∀ (w : World) (ns : List Int), ns.length ≤ n → G w [.o (.scr ns)] [] (fun y _ => y = .d (.bool true)) (fun _ _ => False)) :
    PySem.W.WalkO q loose XP YP l.row.toRowW d [] (fun f vs => PySem.call f vs) := by
  refine Att.attach_call hn hdf fun w s0 s1 mg mb fa o pm cd doc a vs ns GR Y ho hd hcd hmg hobj hints hlen hg => ?_
  have KX := hY w _ Y
  obtain ⟨fd, hb, hF⟩ := F w mg fa _ KX GR.T.g hmg
  exact law_go KX GR.T.g GR.T.b GR.T.builtins GR.T.nolimit hg hobj hints (Nat.le_trans hlen hn2) hr hF hb (hG w ns hlen)
end Dl

/-! the data layer, part 9: the operations of the language on data -/
namespace Dl
open PySem
open PySem.Spec
open PyProof.Rows
open L2
open Evl (Ex)

/-- a text by its signs -/
abbrev S (l : List Nat) : Str := ⟨l.toArray⟩
def cut {α : Type} (l : List α) (lo hi : Option Int) : List α := (l.drop (HT.sIx l.length 0 lo)).take (HT.sIx l.length l.length hi - HT.sIx l.length 0 lo)

/-! ### + - * // % ** -/
def gAdd : G2 := fun x y k => match x, y with
  | .int i, .int j => k (.int (i + j))
  | .str a, .str b => a.length + b.length ≤ sizeLine ∧ k (.str (a ++ b))
  | .tuple a, .tuple b => a.length + b.length ≤ sizeLine ∧ k (.tuple (a ++ b))
  | .list a, .list b => a.length + b.length ≤ sizeLine ∧ k (.list (a ++ b))
  | _, _ => False
def gAddL : GL2 := fun x y k => match x, y with
  | .list a, .list b => a.length + b.length ≤ sizeLine ∧ k (a ++ b)
  | _, _ => False
def gSub : G2 := fun x y k => match x, y with
  | .int i, .int j => k (.int (i - j))
  | _, _ => False
def gMul : G2 := fun x y k => match x, y with
  | .int i, .int j => i.natAbs.log2 + j.natAbs.log2 < 1000000 ∧ k (.int (i * j))
  | .list a, .int j => -(2 ^ 63) ≤ j ∧ j < 2 ^ 63 ∧ a.length * j.toNat ≤ sizeLine ∧ k (.list (List.replicate j.toNat a).flatten)
  | .str a, .int j => j ≤ 100000 ∧ -100000 ≤ j ∧ a.length ≤ 100 ∧ k (.str ⟨(List.replicate j.toNat a.cps.toList).flatten.toArray⟩)
  | _, _ => False
def gMulL : GL2 := fun x y k => match x, y with
  | .list a, .int j => -(2 ^ 63) ≤ j ∧ j < 2 ^ 63 ∧ a.length * j.toNat ≤ sizeLine ∧ k (List.replicate j.toNat a).flatten
  | _, _ => False
def gDiv : G2 := fun x y k => match x, y with
  | .int i, .int j => (0 < j ∧ j.natAbs.log2 < 9000) ∧ k (.int (i / j))
  | _, _ => False
def gMod : G2 := fun x y k => match x, y with
  | .int i, .int j => 0 < j ∧ k (.int (i % j))
  | _, _ => False
def gPow : G2 := fun x y k => match x, y with
  | .int i, .int j => (0 ≤ j ∧ j ≤ 1000 ∧ i.natAbs.log2 < 100000) ∧ k (.int (i ^ j.toNat))
  | _, _ => False
section
variable {X : Cx}
theorem rpTup {K : PySem.W.Frag} {Hf H : Hp} {a b : Addr} {xs ys : List V} {ds es : List D} {k : D → Prop} {Q : VK} (e : Ex Hf H) (h1 : SqT K Hf a xs) (r1 : RpA K Hf xs ds) (h2 : SqT K Hf b ys) (r2 : RpA K Hf ys es) (F : Fol K Hf H k Q) (q : k (.tuple (ds ++ es))) :
    (xs = [] → Q (.ref b) H) ∧ (xs ≠ [] → ys = [] → Q (.ref a) H) ∧ (xs ≠ [] → ys ≠ [] → ∀ p, H p = none → Q (.ref p) (upd H p (.tup (xs ++ ys)))) := by
  refine ⟨fun z => ?_, fun _ z => ?_, fun _ _ p hp => F.newT e (r1.append r2) hp q⟩
  · subst z
    cases r1
    exact F.here e (.tup h2 r2) q
  · subst z
    cases r2
    rw [List.append_nil] at q
    exact F.here e (.tup h1 r1) q
theorem o_add : Op2 X (binaryOp .Add) gAdd := by
  refine ⟨_, (op_add (X := X)).or ((op_add_str (X := X)).or ((op_catA (X := X)).or (op_cat (X := X)))), fun x y Hf H dx dy k Q e rx ry q F => ?_⟩
  cases dx <;> cases dy <;> first | exact q.elim | skip
  · rw [rx.int, ry.int]
    exact .inl ⟨_, _, rfl, rfl, F.here e (.int _) q⟩
  · rw [rx.str, ry.str]
    exact .inr (.inl ⟨_, _, rfl, rfl, q.1, F.here e (.str _) q.2⟩)
  · obtain ⟨a, xs, rfl, h1, r1⟩ := rx.list e
    obtain ⟨b, ys, rfl, h2, r2⟩ := ry.list e
    exact .inr (.inr (.inr ⟨a, b, xs, ys, rfl, rfl, h1, h2, by rw [r1.length, r2.length]; exact q.1, fun p hp => F.new e (r1.append r2) hp q.2⟩))
  · obtain ⟨a, xs, rfl, h1, r1⟩ := rx.tup
    obtain ⟨b, ys, rfl, h2, r2⟩ := ry.tup
    exact .inr (.inr (.inl ⟨a, b, xs, ys, rfl, rfl, Evl.ex_t e h1, Evl.ex_t e h2, by rw [r1.length, r2.length]; exact q.1, rpTup e h1 r1 h2 r2 F q.2⟩))
theorem o_addL : OpL2 X (binaryOp .Add) gAddL := by
  refine ⟨_, op_cat (X := X), fun x y Hf H dx dy k Q e rx ry q F => ?_⟩
  cases dx <;> cases dy <;> first | exact q.elim | skip
  obtain ⟨a, xs, rfl, h1, r1⟩ := rx.list e
  obtain ⟨b, ys, rfl, h2, r2⟩ := ry.list e
  exact ⟨a, b, xs, ys, rfl, rfl, h1, h2, by rw [r1.length, r2.length]; exact q.1, fun p hp => F p _ _ Hf H (.refl e) hp (r1.append r2) q.2⟩
theorem o_sub : Op2 X (binaryOp .Sub) gSub := by
  refine ⟨_, op_sub (X := X), fun x y Hf H dx dy k Q e rx ry q F => ?_⟩
  cases dx <;> cases dy <;> first | exact q.elim | skip
  rw [rx.int, ry.int]
  exact ⟨_, _, rfl, rfl, F.here e (.int _) q⟩
theorem str_mul {a : Str} {j : Int} (h1 : j ≤ 100000) (h2 : -100000 ≤ j) (h3 : a.length ≤ 100) : MulOk a j ∧ Txt.mul a j = ⟨(List.replicate j.toNat a.cps.toList).flatten.toArray⟩ := by
  refine ⟨⟨?_, fun h _ => ?_, fun h _ => ?_⟩, ?_⟩
  · rw [Bool.or_eq_false_iff]
    exact ⟨decide_eq_false (by omega), decide_eq_false (by omega)⟩
  · have : (100 : Int) ≤ (2 ^ 63 - 1) / j := by
      have h4 : (100 : Int) * j ≤ 2 ^ 63 - 1 := by omega
      exact Int.le_ediv_of_mul_le (by omega) h4
    omega
  · have hm : a.length * j.toNat ≤ 100 * 100000 := Nat.mul_le_mul h3 (by omega)
    show decide (_ > sizeLine) = false
    refine decide_eq_false ?_
    have : (sizeLine : Nat) = 16777216 := sizeLine_eq
    omega
  · have fold : ∀ (n : Nat) (acc : Array Nat), (List.replicate n a.cps).foldl (· ++ ·) acc = (acc.toList ++ (List.replicate n a.cps.toList).flatten).toArray := by
      intro n
      induction n with
      | zero => intro acc; simp
      | succ n ih =>
        intro acc
        rw [List.replicate_succ, List.foldl_cons, ih, List.replicate_succ, List.flatten_cons, Array.toList_append, List.append_assoc]
    unfold Txt.mul
    by_cases hj : j < 1
    · rw [if_pos hj]
      have : j.toNat = 0 := by omega
      rw [this]
      rfl
    · rw [if_neg hj]
      by_cases hc : (j == 1 || a.length == 0) = true
      · rw [if_pos hc]
        rcases Bool.or_eq_true_iff.mp hc with h | h
        · have : j = 1 := by simpa using h
          rw [this]
          show a = ⟨(List.replicate 1 a.cps.toList).flatten.toArray⟩
          simp
        · have ha : a.cps.toList = [] := by
            have : a.cps.size = 0 := by
              have h' : a.length = 0 := by simpa using h
              exact h'
            simpa using this
          obtain ⟨c⟩ := a
          have : c = #[] := by simpa using ha
          subst this
          show (⟨#[]⟩ : Str) = ⟨(List.replicate j.toNat []).flatten.toArray⟩
          simp
      · rw [if_neg hc, fold]
        simp
theorem op_mul_str : OpR X (binaryOp .Mult) (fun x y H Q => ∃ a j, x = .str a ∧ y = .int j ∧ (j ≤ 100000 ∧ -100000 ≤ j ∧ a.length ≤ 100) ∧ Q (.str ⟨(List.replicate j.toNat a.cps.toList).flatten.toArray⟩) H) := by
  intro pins s σ H x y v u Q I rx ry h
  obtain ⟨a, j, rfl, rfl, ⟨h1, h2, h3⟩, q⟩ := h
  obtain ⟨t, rfl⟩ := rx
  obtain ⟨t', rfl⟩ := ry
  obtain ⟨m1, m2⟩ := str_mul h1 h2 h3
  refine SB.mul m1 fun t'' k => ?_
  rw [m2]
  exact ⟨.str _, H, I.tok _, ⟨_, rfl⟩, q⟩
theorem o_mul : Op2 X (binaryOp .Mult) gMul := by
  refine ⟨_, (op_mulW (X := X)).or ((op_rep (X := X)).or (op_mul_str (X := X))), fun x y Hf H dx dy k Q e rx ry q F => ?_⟩
  cases dx <;> cases dy <;> first | exact q.elim | skip
  · rw [rx.int, ry.int]
    exact .inl ⟨_, _, rfl, rfl, q.1, F.here e (.int _) q.2⟩
  · rw [rx.str, ry.int]
    exact .inr (.inr ⟨_, _, rfl, rfl, ⟨q.1, q.2.1, q.2.2.1⟩, F.here e (.str _) q.2.2.2⟩)
  · obtain ⟨a, xs, rfl, h1, r1⟩ := rx.list e
    rw [ry.int]
    exact .inr (.inl ⟨a, _, xs, rfl, rfl, h1, q.1, q.2.1, by rw [r1.length]; exact q.2.2.1, fun p hp => F.new e r1.flat hp q.2.2.2⟩)
theorem o_div : Op2 X (binaryOp .FloorDiv) gDiv := by
  refine ⟨_, op_fdivW (X := X), fun x y Hf H dx dy k Q e rx ry q F => ?_⟩
  cases dx <;> cases dy <;> first | exact q.elim | skip
  rw [rx.int, ry.int]
  exact ⟨_, _, rfl, rfl, q.1, F.here e (.int _) q.2⟩
theorem o_mod : Op2 X (binaryOp .Mod) gMod := by
  refine ⟨_, op_mod (X := X), fun x y Hf H dx dy k Q e rx ry q F => ?_⟩
  cases dx <;> cases dy <;> first | exact q.elim | skip
  rw [rx.int, ry.int]
  exact ⟨_, _, rfl, rfl, q.1, F.here e (.int _) q.2⟩
theorem op_powW : OpR X (binaryOp .Pow) (rI (fun i j => 0 ≤ j ∧ j ≤ 1000 ∧ i.natAbs.log2 < 100000) fun i j => .int (i ^ j.toNat)) := opI fun i j _ _ _ _ _ hc q => by
  refine pow_int hc.1 ?_ q
  have hb : Builtin.Int.intBits i ≤ i.natAbs.log2 + 1 := by
    unfold Builtin.Int.intBits
    split <;> omega
  have h1 : (Builtin.Int.intBits i : Int) ≤ 100000 := by
    have := hc.2.2
    omega
  have h2 : (Builtin.Int.intBits i : Int) * j ≤ 100000 * 1000 := Int.mul_le_mul h1 hc.2.1 hc.1 (by omega)
  omega
theorem o_pow : Op2 X (binaryOp .Pow) gPow := by
  refine ⟨_, op_powW (X := X), fun x y Hf H dx dy k Q e rx ry q F => ?_⟩
  cases dx <;> cases dy <;> first | exact q.elim | skip
  rw [rx.int, ry.int]
  exact ⟨_, _, rfl, rfl, q.1, F.here e (.int _) q.2⟩
def gNeg : G1 := fun x k => match x with
  | .int i => k (.int (-i))
  | _ => False
theorem o_neg : Op1 X (unaryOp .USub) gNeg := by
  refine ⟨_, un_neg (X := X), fun x Hf H dx k Q e rx q F => ?_⟩
  cases dx <;> first | exact q.elim | skip
  rw [rx.int]
  exact ⟨_, rfl, F.here e (.int _) q⟩
/-! ### += and -= -/
def gIAdd : G2 := fun x y k => match x, y with
  | .int i, .int j => k (.int (i + j))
  | .str a, .str b => a.length + b.length ≤ sizeLine ∧ k (.str (a ++ b))
  | _, _ => False
theorem o_iadd : Op2 X (inplaceOp .Add) gIAdd := by
  refine ⟨_, (iop_add (X := X)).or (iop_add_str (X := X)), fun x y Hf H dx dy k Q e rx ry q F => ?_⟩
  cases dx <;> cases dy <;> first | exact q.elim | skip
  · rw [rx.int, ry.int]
    exact .inl ⟨_, _, rfl, rfl, F.here e (.int _) q⟩
  · rw [rx.str, ry.str]
    exact .inr ⟨_, _, rfl, rfl, q.1, F.here e (.str _) q.2⟩
/-! ### comparisons -/
abbrev shp : D → Bool := SeqAt.shaped
abbrev eqd : D → D → Bool := PyData.eqv
end
mutual
theorem Rp.dp {K : PySem.W.Frag} {H : Hp} : ∀ {d : D} {v : V}, d.canLay0 = true → Rp K H v d → Dp K H v d
  | .none, _, _, .non => .non
  | .bool b, _, _, .bl _ => .bl b
  | .int i, _, _, .int _ => .int i
  | .str s, _, _, .str _ => .str s
  | .list ds, _, h, .lst e r => .lst (Evl.sq_of e) (RpA.dp (by simpa [PyData.canLay0] using h) r)
  | .tuple ds, _, h, .tup e r => .tup e (RpA.dp (by simpa [PyData.canLay0] using h) r)
  | .dict es, _, h, _ => by simp [PyData.canLay0] at h
theorem RpA.dp {K : PySem.W.Frag} {H : Hp} : ∀ {ds : List D} {vs : List V}, PyData.canLayAll0 ds = true → RpA K H vs ds → DpAll K H vs ds
  | [], _, _, .nil => .nil
  | d :: ds, _, h, .cons e r => by
    have h' : (d.canLay0 && PyData.canLayAll0 ds) = true := by simpa [PyData.canLayAll0] using h
    rw [Bool.and_eq_true] at h'
    exact .cons (Rp.dp h'.1 e) (RpA.dp h'.2 r)
end
section
variable {X : Cx}
def gEq : GB := fun x y k => match x, y with
  | .str a, .str b => k (a == b)
  | x, y => shp x = true ∧ shp y = true ∧ k (eqd x y)
def gNe : GB := fun x y k => gEq x y fun b => k (!b)
theorem o_eq (hu : X.A.units + 64 < cLine) : OpB X (compareOp .Eq) gEq := by
  refine ⟨_, (op_eq (X := X)).or (op_eqD (X := X) hu), fun x y Hf H dx dy k Q e rx ry q F => ?_⟩
  unfold gEq at q
  split at q
  · rename_i a b
    rw [rx.str, ry.str]
    refine .inl ⟨rfl, ?_⟩
    have e1 : decide (V.str a = V.str b) = (a == b) := by
      by_cases h : a = b
      · rw [h]; simp
      · rw [decide_eq_false (fun z => h (V.str.inj z))]
        exact (beq_eq_false_iff_ne.mpr h).symm
    rw [e1]
    exact F _ Hf H (.refl e) q
  · exact .inr ⟨dx, dy, Rp.dp (SeqAt.canLay_of_shaped q.1) (rx.full e), Rp.dp (SeqAt.canLay_of_shaped q.2.1) (ry.full e), q.1, q.2.1, F _ Hf H (.refl e) q.2.2⟩
theorem o_ne (hu : X.A.units + 64 < cLine) : OpB X (compareOp .NotEq) gNe := by
  refine ⟨_, (op_ne (X := X)).or (op_neD (X := X) hu), fun x y Hf H dx dy k Q e rx ry q F => ?_⟩
  unfold gNe gEq at q
  split at q
  · rename_i a b
    rw [rx.str, ry.str]
    refine .inl ⟨rfl, ?_⟩
    have e1 : decide (V.str a = V.str b) = (a == b) := by
      by_cases h : a = b
      · rw [h]; simp
      · rw [decide_eq_false (fun z => h (V.str.inj z))]
        exact (beq_eq_false_iff_ne.mpr h).symm
    rw [e1]
    exact F _ Hf H (.refl e) q
  · exact .inr ⟨dx, dy, Rp.dp (SeqAt.canLay_of_shaped q.1) (rx.full e), Rp.dp (SeqAt.canLay_of_shaped q.2.1) (ry.full e), q.1, q.2.1, F _ Hf H (.refl e) q.2.2⟩
def gLt : GB := fun x y k => match x, y with
  | .int i, .int j => k (decide (i < j))
  | .str a, .str b => k (decide (a.cps.toList < b.cps.toList))
  | _, _ => False
def gLe : GB := fun x y k => match x, y with
  | .int i, .int j => k (decide (i ≤ j))
  | .str a, .str b => k (!decide (b.cps.toList < a.cps.toList))
  | _, _ => False
def gGt : GB := fun x y k => match x, y with
  | .int i, .int j => k (decide (j < i))
  | .str a, .str b => k (decide (b.cps.toList < a.cps.toList))
  | _, _ => False
def gGe : GB := fun x y k => match x, y with
  | .int i, .int j => k (decide (j ≤ i))
  | .str a, .str b => k (!decide (a.cps.toList < b.cps.toList))
  | _, _ => False
theorem o_lt : OpB X (compareOp .Lt) gLt := by
  refine ⟨_, (op_lt (X := X)).or (op_lt_str (X := X)), fun x y Hf H dx dy k Q e rx ry q F => ?_⟩
  cases dx <;> cases dy <;> first | exact q.elim | skip
  · rw [rx.int, ry.int]
    exact .inl ⟨_, _, rfl, rfl, F _ Hf H (.refl e) q⟩
  · rw [rx.str, ry.str]
    exact .inr ⟨_, _, rfl, rfl, F _ Hf H (.refl e) q⟩
theorem o_le : OpB X (compareOp .LtE) gLe := by
  refine ⟨_, (op_le (X := X)).or (op_le_str (X := X)), fun x y Hf H dx dy k Q e rx ry q F => ?_⟩
  cases dx <;> cases dy <;> first | exact q.elim | skip
  · rw [rx.int, ry.int]
    exact .inl ⟨_, _, rfl, rfl, F _ Hf H (.refl e) q⟩
  · rw [rx.str, ry.str]
    exact .inr ⟨_, _, rfl, rfl, F _ Hf H (.refl e) q⟩
theorem o_gt : OpB X (compareOp .Gt) gGt := by
  refine ⟨_, (op_gt (X := X)).or (op_gt_str (X := X)), fun x y Hf H dx dy k Q e rx ry q F => ?_⟩
  cases dx <;> cases dy <;> first | exact q.elim | skip
  · rw [rx.int, ry.int]
    exact .inl ⟨_, _, rfl, rfl, F _ Hf H (.refl e) q⟩
  · rw [rx.str, ry.str]
    exact .inr ⟨_, _, rfl, rfl, F _ Hf H (.refl e) q⟩
theorem o_ge : OpB X (compareOp .GtE) gGe := by
  refine ⟨_, (op_ge (X := X)).or (op_ge_str (X := X)), fun x y Hf H dx dy k Q e rx ry q F => ?_⟩
  cases dx <;> cases dy <;> first | exact q.elim | skip
  · rw [rx.int, ry.int]
    exact .inl ⟨_, _, rfl, rfl, F _ Hf H (.refl e) q⟩
  · rw [rx.str, ry.str]
    exact .inr ⟨_, _, rfl, rfl, F _ Hf H (.refl e) q⟩
def gIs : GB := fun x y k => match x, y with
  | .none, .none => k true
  | .bool _, .none => k false
  | .int _, .none => k false
  | .str _, .none => k false
  | .list _, .none => k false
  | .tuple _, .none => k false
  | .bool a, .bool b => k (decide (a = b))
  | _, _ => False
theorem o_is : OpB X (compareOp .Is) gIs := by
  refine ⟨_, (op_isN (X := X)).or (op_is_bl (X := X)), fun x y Hf H dx dy k Q e rx ry q F => ?_⟩
  cases dx <;> cases dy <;> first | exact q.elim | skip
  · rw [rx.non, ry.non]
    exact .inl ⟨rfl, F true Hf H (.refl e) q⟩
  · rw [rx.bl, ry.non]
    exact .inl ⟨rfl, F false Hf H (.refl e) q⟩
  · rw [rx.bl, ry.bl]
    exact .inr ⟨_, _, rfl, rfl, F _ Hf H (.refl e) q⟩
  · rw [rx.int, ry.non]
    exact .inl ⟨rfl, F false Hf H (.refl e) q⟩
  · rw [rx.str, ry.non]
    exact .inl ⟨rfl, F false Hf H (.refl e) q⟩
  · obtain ⟨a, xs, rfl, _⟩ := rx.list e
    rw [ry.non]
    exact .inl ⟨rfl, F false Hf H (.refl e) q⟩
  · obtain ⟨a, xs, rfl, _⟩ := rx.tup
    rw [ry.non]
    exact .inl ⟨rfl, F false Hf H (.refl e) q⟩
/-! in, not in: a sign in a text; a flat thing in a list or tuple of flat things -/
def flatD : D → Bool
  | .none => true
  | .bool _ => true
  | .int _ => true
  | .str _ => true
  | _ => false
def gIn : GB := fun x y k => match y with
  | .str z => match x with
    | .str w => match w.cps.toList with
      | [c] => k (decide (c ∈ z.cps.toList))
      | _ => False
    | _ => False
  | .list ds => flatD x = true ∧ ds.all flatD = true ∧ k (ds.any fun z => eqd z x)
  | .tuple ds => flatD x = true ∧ ds.all flatD = true ∧ k (ds.any fun z => eqd z x)
  | _ => False
def gNotIn : GB := fun x y k => gIn x y fun b => k (!b)
theorem flat_V {K : PySem.W.Frag} {Hf H : Hp} {v : V} {d : D} (h : flatD d = true) (r : RpH K Hf H v d) : flatV v = true := by
  cases d <;> first | cases h | skip
  · rw [r.non]; rfl
  · rw [r.bl]; rfl
  · rw [r.int]; rfl
  · rw [r.str]; rfl
theorem eqV_eqd {K : PySem.W.Frag} {Hf H : Hp} {v u : V} {d e : D} (h1 : flatD d = true) (h2 : flatD e = true) (r1 : RpH K Hf H v d) (r2 : RpH K Hf H u e) : eqV v u = eqd d e := by
  cases d <;> first | cases h1 | skip
  · rw [r1.non]
    cases e <;> first | cases h2 | skip
    · rw [r2.non]; rfl
    · rw [r2.bl]; rfl
    · rw [r2.int]; rfl
    · rw [r2.str]; rfl
  · rw [r1.bl]
    cases e <;> first | cases h2 | skip
    · rw [r2.non]; rfl
    · rw [r2.bl]; rfl
    · rw [r2.int]; rfl
    · rw [r2.str]; rfl
  · rw [r1.int]
    cases e <;> first | cases h2 | skip
    · rw [r2.non]; rfl
    · rw [r2.bl]; rfl
    · rw [r2.int]; rfl
    · rw [r2.str]; rfl
  · rw [r1.str]
    cases e <;> first | cases h2 | skip
    · rw [r2.non]; rfl
    · rw [r2.bl]; rfl
    · rw [r2.int]; rfl
    · rw [r2.str]; rfl
theorem inV_any {K : PySem.W.Frag} {Hf H : Hp} {v : V} {d : D} (hd : flatD d = true) (r : RpH K Hf H v d) : ∀ {xs : List V} {ds : List D}, RpA K Hf xs ds → ds.all flatD = true → xs.all flatV = true ∧ inV v xs = ds.any fun z => eqd z d
  | _, _, .nil, _ => ⟨rfl, rfl⟩
  | _, _, .cons h t, q => by
    rw [List.all_cons, Bool.and_eq_true] at q
    obtain ⟨i1, i2⟩ := inV_any hd r t q.2
    refine ⟨?_, ?_⟩
    · rw [List.all_cons, Bool.and_eq_true]
      exact ⟨flat_V (Hf := Hf) (H := H) q.1 (.inl h), i1⟩
    · have e1 := eqV_eqd q.1 hd (.inl h) r
      unfold inV at i2 ⊢
      rw [List.any_cons, List.any_cons, e1, i2]
theorem one_sign {w : Str} {c : Nat} (h : w.cps.toList = [c]) : w = ⟨#[c]⟩ := by
  obtain ⟨a⟩ := w
  congr 1
  apply Array.toList_inj.mp
  exact h
theorem o_in : OpB X (compareOp .In) gIn := by
  refine ⟨_, (op_in_sign (X := X)).or (op_in_seq (X := X)), fun x y Hf H dx dy k Q e rx ry q F => ?_⟩
  cases dy <;> first | exact q.elim | skip
  · cases dx <;> first | exact q.elim | skip
    rename_i z w
    unfold gIn at q
    dsimp only at q
    split at q
    · rename_i c hc
      rw [rx.str, ry.str, one_sign hc]
      exact .inl ⟨c, z, rfl, rfl, F _ Hf H (.refl e) q⟩
    · exact q.elim
  · obtain ⟨a, xs, rfl, h1, r1⟩ := ry.list e
    obtain ⟨i1, i2⟩ := inV_any q.1 rx r1 q.2.1
    refine .inr ⟨a, xs, rfl, .inl (Evl.sq_of h1), flat_V q.1 rx, i1, ?_⟩
    rw [i2]
    exact F _ Hf H (.refl e) q.2.2
  · obtain ⟨a, xs, rfl, h1, r1⟩ := ry.tup
    obtain ⟨i1, i2⟩ := inV_any q.1 rx r1 q.2.1
    refine .inr ⟨a, xs, rfl, .inr (Evl.ex_t e h1), flat_V q.1 rx, i1, ?_⟩
    rw [i2]
    exact F _ Hf H (.refl e) q.2.2
theorem o_notin : OpB X (compareOp .NotIn) gNotIn := by
  refine ⟨_, (op_notIn_sign (X := X)).or (op_notIn_seq (X := X)), fun x y Hf H dx dy k Q e rx ry q F => ?_⟩
  cases dy <;> first | exact q.elim | skip
  · cases dx <;> first | exact q.elim | skip
    rename_i z w
    unfold gNotIn gIn at q
    dsimp only at q
    split at q
    · rename_i c hc
      rw [rx.str, ry.str, one_sign hc]
      exact .inl ⟨c, z, rfl, rfl, F _ Hf H (.refl e) q⟩
    · exact q.elim
  · obtain ⟨a, xs, rfl, h1, r1⟩ := ry.list e
    obtain ⟨i1, i2⟩ := inV_any q.1 rx r1 q.2.1
    refine .inr ⟨a, xs, rfl, .inl (Evl.sq_of h1), flat_V q.1 rx, i1, ?_⟩
    rw [i2]
    exact F _ Hf H (.refl e) q.2.2
  · obtain ⟨a, xs, rfl, h1, r1⟩ := ry.tup
    obtain ⟨i1, i2⟩ := inV_any q.1 rx r1 q.2.1
    refine .inr ⟨a, xs, rfl, .inr (Evl.ex_t e h1), flat_V q.1 rx, i1, ?_⟩
    rw [i2]
    exact F _ Hf H (.refl e) q.2.2
end
end Dl

/-! the data layer, part 10: subscripts, slices, built-ins, methods -/
namespace Dl
open PySem
open PySem.Spec
open PyProof.Rows
open L2
open Evl (Ex)
section
variable {X : Cx}
def gIx : G2 := fun x y k => match y with
  | .int i => match x with
    | .list ds => match atI ds i with
      | some d => k d
      | none => False
    | .tuple ds => match atI ds i with
      | some d => k d
      | none => False
    | .str z => z.length ≤ sizeLine ∧ match atI z.cps.toList i with
      | some c => k (sign c)
      | none => False
    | _ => False
  | _ => False
theorem atI_rp {K : PySem.W.Frag} {H : Hp} {xs : List V} {ds : List D} {i : Int} {d : D} (r : RpA K H xs ds) (h : atI ds i = some d) : ∃ v, atI xs i = some v ∧ Rp K H v d := by
  unfold atI at h ⊢
  rw [r.length]
  cases e : ixN ds.length i with
  | none =>
    rw [e] at h
    cases h
  | some j =>
    rw [e] at h
    exact r.getD h
theorem o_ix : OpI X gIx := by
  refine ⟨_, ix_seq (X := X), fun x y Hf H dx dy k Q e rx ry q F => ?_⟩
  unfold gIx at q
  split at q
  · rename_i i
    rw [ry.int]
    split at q
    · obtain ⟨a, xs, rfl, h1, r1⟩ := rx.list e
      split at q
      · rename_i d hd
        obtain ⟨v, hv, rv⟩ := atI_rp r1 hd
        exact .inl ⟨a, xs, i, v, rfl, rfl, Evl.sq_of h1, hv, F.here e rv q⟩
      · exact q.elim
    · obtain ⟨a, xs, rfl, h1, r1⟩ := rx.tup
      split at q
      · rename_i d hd
        obtain ⟨v, hv, rv⟩ := atI_rp r1 hd
        exact .inr (.inl ⟨a, xs, i, v, rfl, rfl, Evl.ex_t e h1, hv, F.here e rv q⟩)
      · exact q.elim
    · obtain ⟨hz, q⟩ := q
      rw [rx.str]
      split at q
      · rename_i c hc
        exact .inr (.inr ⟨_, i, c, rfl, rfl, hz, hc, F.here e (.str _) q⟩)
      · exact q.elim
    · exact q.elim
  · exact q.elim
def gSl : GS := fun x lo hi k => match x with
  | .list ds => k (.list (cut ds lo hi))
  | .tuple ds => k (.tuple (cut ds lo hi))
  | .str z => z.length ≤ sizeLine ∧ k (.str ⟨(cut z.cps.toList lo hi).toArray⟩)
  | _ => False
def gSlL : GSL := fun x lo hi k => match x with
  | .list ds => k (cut ds lo hi)
  | _ => False
theorem rp_cut {K : PySem.W.Frag} {H : Hp} {xs : List V} {ds : List D} {lo hi : Option Int} (r : RpA K H xs ds) : RpA K H (cutV xs lo hi) (cut ds lo hi) := by
  unfold cutV cut
  rw [r.length]
  exact (r.drop _).take _
theorem cut_all {α : Type} {l : List α} {lo hi : Option Int} (h : HT.sIx l.length 0 lo = 0 ∧ HT.sIx l.length l.length hi = l.length) : cut l lo hi = l := by
  unfold cut
  rw [h.1, h.2]
  show List.take (l.length - 0) l = l
  rw [Nat.sub_zero, List.take_length]
theorem o_sl : OpS X gSl := by
  refine ⟨_, (sl_list (X := X)).or ((sl_tupA (X := X)).or (sl_str (X := X))), fun x lo hi Hf H dx k Q e rx q F => ?_⟩
  cases dx <;> first | exact q.elim | skip
  · rename_i z
    rw [rx.str]
    refine .inr (.inr ⟨z, rfl, q.1, F.here e (.str _) ?_⟩)
    exact q.2
  · obtain ⟨a, xs, rfl, h1, r1⟩ := rx.list e
    exact .inl ⟨a, xs, rfl, Evl.sq_of h1, fun p hp => F.new e (rp_cut r1) hp q⟩
  · obtain ⟨a, xs, rfl, h1, r1⟩ := rx.tup
    refine .inr (.inl ⟨a, xs, rfl, Evl.ex_t e h1, fun hw => ?_, fun _ p hp => F.newT e (rp_cut r1) hp q⟩)
    rw [r1.length] at hw
    have q' : k (.tuple (cut _ lo hi)) := q
    rw [cut_all hw] at q'
    exact F.here e (.tup h1 r1) q'
/-! ### built-in functions -/
theorem hs1 {K : PySem.W.Frag} {Hf H : Hp} {vs : List V} {d : D} (h : RpHs K Hf H vs [d]) : ∃ v, vs = [v] ∧ RpH K Hf H v d := by
  cases h with
  | cons h t =>
    cases t
    exact ⟨_, rfl, h⟩
theorem hs2 {K : PySem.W.Frag} {Hf H : Hp} {vs : List V} {d e : D} (h : RpHs K Hf H vs [d, e]) : ∃ v u, vs = [v, u] ∧ RpH K Hf H v d ∧ RpH K Hf H u e := by
  cases h with
  | cons h t =>
    obtain ⟨u, rfl, hu⟩ := hs1 t
    exact ⟨_, u, rfl, h, hu⟩
def gLen : GA := fun ds k => match ds with
  | [.str z] => z.length ≤ sizeLine ∧ k (.int z.length)
  | [.list l] => k (.int l.length)
  | [.tuple l] => k (.int l.length)
  | _ => False
theorem o_len : OpC X (.builtin "len") gLen := by
  refine ⟨_, call_len (X := X), fun xs Hf H ds k Q e rx q F => ?_⟩
  unfold gLen at q
  split at q
  · obtain ⟨v, rfl, r⟩ := hs1 rx
    rw [r.str]
    exact ⟨_, _, rfl, ⟨q.1, rfl⟩, F.here e (.int _) q.2⟩
  · obtain ⟨v, rfl, r⟩ := hs1 rx
    obtain ⟨a, xs, rfl, h1, r1⟩ := r.list e
    exact ⟨_, xs.length, rfl, .inl ⟨xs, Evl.sq_of h1, rfl⟩, F.here e (.int _) (by rw [r1.length]; exact q)⟩
  · obtain ⟨v, rfl, r⟩ := hs1 rx
    obtain ⟨a, xs, rfl, h1, r1⟩ := r.tup
    exact ⟨_, xs.length, rfl, .inr ⟨xs, Evl.ex_t e h1, rfl⟩, F.here e (.int _) (by rw [r1.length]; exact q)⟩
  · exact q.elim
def gAbs : GA := fun ds k => match ds with
  | [.int i] => k (.int (if i < 0 then -i else i))
  | _ => False
theorem o_abs : OpC X (.builtin "abs") gAbs := by
  refine ⟨_, call_abs (X := X), fun xs Hf H ds k Q e rx q F => ?_⟩
  unfold gAbs at q
  split at q
  · obtain ⟨v, rfl, r⟩ := hs1 rx
    rw [r.int]
    exact ⟨_, rfl, F.here e (.int _) q⟩
  · exact q.elim
/-- all ints, all truth values, all texts -/
def intsD : List D → Option (List Int)
  | [] => some []
  | .int i :: r => (intsD r).map (i :: ·)
  | _ :: _ => none
def boolsD : List D → Option (List Bool)
  | [] => some []
  | .bool i :: r => (boolsD r).map (i :: ·)
  | _ :: _ => none
def strsD : List D → Option (List Str)
  | [] => some []
  | .str i :: r => (strsD r).map (i :: ·)
  | _ :: _ => none
theorem intsD_ok {K : PySem.W.Frag} {H : Hp} : ∀ {ds : List D} {vs : List V} {ns : List Int}, intsD ds = some ns → RpA K H vs ds → vs = ns.map V.int
  | [], _, _, h, .nil => by cases h; rfl
  | .int i :: r, _, _, h, .cons q t => by
    cases q
    unfold intsD at h
    cases e : intsD r with
    | none => rw [e] at h; cases h
    | some l =>
      rw [e] at h
      cases h
      rw [intsD_ok e t]
      rfl
  | .none :: _, _, _, h, _ => by cases h
  | .bool _ :: _, _, _, h, _ => by cases h
  | .str _ :: _, _, _, h, _ => by cases h
  | .list _ :: _, _, _, h, _ => by cases h
  | .tuple _ :: _, _, _, h, _ => by cases h
  | .dict _ :: _, _, _, h, _ => by cases h
theorem boolsD_ok {K : PySem.W.Frag} {H : Hp} : ∀ {ds : List D} {vs : List V} {ns : List Bool}, boolsD ds = some ns → RpA K H vs ds → vs = ns.map V.bl
  | [], _, _, h, .nil => by cases h; rfl
  | .bool i :: r, _, _, h, .cons q t => by
    cases q
    unfold boolsD at h
    cases e : boolsD r with
    | none => rw [e] at h; cases h
    | some l =>
      rw [e] at h
      cases h
      rw [boolsD_ok e t]
      rfl
  | .none :: _, _, _, h, _ => by cases h
  | .int _ :: _, _, _, h, _ => by cases h
  | .str _ :: _, _, _, h, _ => by cases h
  | .list _ :: _, _, _, h, _ => by cases h
  | .tuple _ :: _, _, _, h, _ => by cases h
  | .dict _ :: _, _, _, h, _ => by cases h
theorem strsD_ok {K : PySem.W.Frag} {H : Hp} : ∀ {ds : List D} {vs : List V} {ns : List Str}, strsD ds = some ns → RpA K H vs ds → vs = ns.map V.str
  | [], _, _, h, .nil => by cases h; rfl
  | .str i :: r, _, _, h, .cons q t => by
    cases q
    unfold strsD at h
    cases e : strsD r with
    | none => rw [e] at h; cases h
    | some l =>
      rw [e] at h
      cases h
      rw [strsD_ok e t]
      rfl
  | .none :: _, _, _, h, _ => by cases h
  | .int _ :: _, _, _, h, _ => by cases h
  | .bool _ :: _, _, _, h, _ => by cases h
  | .list _ :: _, _, _, h, _ => by cases h
  | .tuple _ :: _, _, _, h, _ => by cases h
  | .dict _ :: _, _, _, h, _ => by cases h
theorem intsD_map {α : Type} (f : α → Int) (l : List α) : intsD (l.map fun a => .int (f a)) = some (l.map f) := by
  induction l with
  | nil => rfl
  | cons a l ih =>
    show (intsD (l.map fun a => .int (f a))).map (f a :: ·) = _
    rw [ih]
    rfl
theorem boolsD_map {α : Type} (f : α → Bool) (l : List α) : boolsD (l.map fun a => .bool (f a)) = some (l.map f) := by
  induction l with
  | nil => rfl
  | cons a l ih =>
    show (boolsD (l.map fun a => .bool (f a))).map (f a :: ·) = _
    rw [ih]
    rfl
theorem strsD_map {α : Type} (f : α → Str) (l : List α) : strsD (l.map fun a => .str (f a)) = some (l.map f) := by
  induction l with
  | nil => rfl
  | cons a l ih =>
    show (strsD (l.map fun a => .str (f a))).map (f a :: ·) = _
    rw [ih]
    rfl
/-- a greatest, a least one -/
def maxI : List Int → Int
  | [] => 0
  | [x] => x
  | x :: r => max x (maxI r)
def minI : List Int → Int
  | [] => 0
  | [x] => x
  | x :: r => min x (minI r)
theorem maxI_mem : ∀ {l : List Int}, l ≠ [] → maxI l ∈ l ∧ ∀ y ∈ l, y ≤ maxI l
  | [], h => absurd rfl h
  | [x], _ => ⟨by simp [maxI], fun y hy => by simp [maxI] at hy ⊢; omega⟩
  | x :: y :: r, _ => by
    obtain ⟨h1, h2⟩ := maxI_mem (l := y :: r) (by simp)
    show max x (maxI (y :: r)) ∈ _ ∧ _
    refine ⟨?_, fun z hz => ?_⟩
    · by_cases h : x ≤ maxI (y :: r)
      · rw [Int.max_eq_right h]
        exact List.mem_cons_of_mem _ h1
      · rw [Int.max_eq_left (by omega)]
        exact List.mem_cons_self
    · show z ≤ max x (maxI (y :: r))
      rcases List.mem_cons.mp hz with rfl | hz
      · exact Int.le_max_left _ _
      · exact Int.le_trans (h2 z hz) (Int.le_max_right _ _)
theorem minI_mem : ∀ {l : List Int}, l ≠ [] → minI l ∈ l ∧ ∀ y ∈ l, minI l ≤ y
  | [], h => absurd rfl h
  | [x], _ => ⟨by simp [minI], fun y hy => by simp [minI] at hy ⊢; omega⟩
  | x :: y :: r, _ => by
    obtain ⟨h1, h2⟩ := minI_mem (l := y :: r) (by simp)
    show min x (minI (y :: r)) ∈ _ ∧ _
    refine ⟨?_, fun z hz => ?_⟩
    · by_cases h : x ≤ minI (y :: r)
      · rw [Int.min_eq_left h]
        exact List.mem_cons_self
      · rw [Int.min_eq_right (by omega)]
        exact List.mem_cons_of_mem _ h1
    · show min x (minI (y :: r)) ≤ z
      rcases List.mem_cons.mp hz with rfl | hz
      · exact Int.min_le_left _ _
      · exact Int.le_trans (Int.min_le_right _ _) (h2 z hz)
def withO {α : Type} (o : Option α) (k : α → Prop) : Prop := match o with
  | some a => k a
  | none => False
theorem withO_ok {α : Type} {o : Option α} {k : α → Prop} (h : withO o k) : ∃ a, o = some a ∧ k a := by
  cases o with
  | none => exact h.elim
  | some a => exact ⟨a, rfl, h⟩
def gMax : GA := fun ds k => match ds with
  | [.int i, .int j] => k (.int (max i j))
  | [.list l] => withO (intsD l) fun ns => ns ≠ [] ∧ k (.int (maxI ns))
  | _ => False
def gMin : GA := fun ds k => match ds with
  | [.int i, .int j] => k (.int (min i j))
  | [.list l] => withO (intsD l) fun ns => ns ≠ [] ∧ k (.int (minI ns))
  | _ => False
theorem callOr {f : Value} {r r' : List V → Hp → VK → Prop} (h : CallR X f r) (h' : CallR X f r') : CallR X f (fun xs H Q => r xs H Q ∨ r' xs H Q) := fun pins s σ H xs us Q I rv q => q.elim (fun q => h pins s σ H xs us Q I rv q) fun q => h' pins s σ H xs us Q I rv q
theorem o_max (hc : X.calm = true) : OpC X (.builtin "max") gMax := by
  refine ⟨_, callOr (call_max2 hc) (cr_max hc), fun xs Hf H ds k Q e rx q F => ?_⟩
  unfold gMax at q
  split at q
  · rename_i i j
    obtain ⟨v, u, rfl, r1, r2⟩ := hs2 rx
    rw [r1.int, r2.int]
    refine .inl ⟨i, j, rfl, ?_⟩
    have e1 : (if j > i then j else i) = max i j := by split <;> omega
    rw [e1]
    exact F.here e (.int _) q
  · obtain ⟨v, rfl, r⟩ := hs1 rx
    obtain ⟨a, xs, rfl, h1, r1⟩ := r.list e
    obtain ⟨ns, en, hne, q⟩ := withO_ok q
    have ex := intsD_ok en r1
    subst ex
    refine .inr ⟨a, ns, rfl, Evl.sq_of h1, List.length_pos_iff.mpr hne, fun m hm hall => ?_⟩
    obtain ⟨g1, g2⟩ := maxI_mem hne
    have : m = maxI ns := Int.le_antisymm (g2 m hm) (hall _ g1)
    rw [this]
    exact F.here e (.int _) q
  · exact q.elim
theorem o_min (hc : X.calm = true) : OpC X (.builtin "min") gMin := by
  refine ⟨_, callOr (call_min2 hc) (cr_min hc), fun xs Hf H ds k Q e rx q F => ?_⟩
  unfold gMin at q
  split at q
  · rename_i i j
    obtain ⟨v, u, rfl, r1, r2⟩ := hs2 rx
    rw [r1.int, r2.int]
    refine .inl ⟨i, j, rfl, ?_⟩
    have e1 : (if j < i then j else i) = min i j := by split <;> omega
    rw [e1]
    exact F.here e (.int _) q
  · obtain ⟨v, rfl, r⟩ := hs1 rx
    obtain ⟨a, xs, rfl, h1, r1⟩ := r.list e
    obtain ⟨ns, en, hne, q⟩ := withO_ok q
    have ex := intsD_ok en r1
    subst ex
    refine .inr ⟨a, ns, rfl, Evl.sq_of h1, List.length_pos_iff.mpr hne, fun m hm hall => ?_⟩
    obtain ⟨g1, g2⟩ := minI_mem hne
    have : m = minI ns := Int.le_antisymm (hall _ g1) (g2 m hm)
    rw [this]
    exact F.here e (.int _) q
  · exact q.elim
def gAll : GA := fun ds k => match ds with
  | [.list l] => withO (boolsD l) fun ns => k (.bool (ns.all id))
  | _ => False
theorem o_all (hc : X.calm = true) : OpC X (.builtin "all") gAll := by
  refine ⟨_, cr_all hc, fun xs Hf H ds k Q e rx q F => ?_⟩
  unfold gAll at q
  split at q
  · obtain ⟨v, rfl, r⟩ := hs1 rx
    obtain ⟨a, xs, rfl, h1, r1⟩ := r.list e
    obtain ⟨ns, en, q⟩ := withO_ok q
    have ex := boolsD_ok en r1
    subst ex
    exact ⟨a, ns, rfl, Evl.sq_of h1, F.here e (.bl _) q⟩
  · exact q.elim
def gInt : GA := fun ds k => match ds with
  | [.int i] => k (.int i)
  | [.bool b] => k (.int (if b = true then 1 else 0))
  | [.str z] => z.length ≤ 640 ∧ withO (PySem.intText? z) fun n => k (.int n)
  | _ => False
def gListL : GLA := fun ds k => match ds with
  | [.list l] => k l
  | [.tuple l] => k l
  | _ => False
def gTuple : GA := fun ds k => match ds with
  | [.list l] => k (.tuple l)
  | [.tuple l] => k (.tuple l)
  | _ => False
theorem o_tuple : OpC X (.type "tuple") gTuple := by
  refine ⟨_, call_tuple_of (X := X), fun xs Hf H ds k Q e rx q F => ?_⟩
  unfold gTuple at q
  split at q
  · obtain ⟨v, rfl, r⟩ := hs1 rx
    obtain ⟨a, xs, rfl, h1, r1⟩ := r.list e
    exact ⟨a, xs, rfl, .inl ⟨Evl.sq_of h1, fun p hp => F.newT e r1 hp q⟩⟩
  · obtain ⟨v, rfl, r⟩ := hs1 rx
    obtain ⟨a, xs, rfl, h1, r1⟩ := r.tup
    exact ⟨a, xs, rfl, .inr ⟨Evl.ex_t e h1, F.here e (.tup h1 r1) q⟩⟩
  · exact q.elim
end
end Dl

/-! the data layer, part 11: isinstance, repr, methods of lists and of texts, lists of ranges -/
namespace Dl
open PySem
open PySem.Spec
open PyProof.Rows
open L2
open Evl (Ex)
/-! ### isinstance of data -/
def tyS : D → String
  | .none => "NoneType"
  | .bool _ => "bool"
  | .int _ => "int"
  | .str _ => "str"
  | .list _ => "list"
  | .tuple _ => "tuple"
  | .dict _ => "dict"
def isiD (T : String) (d : D) : Bool := decide (tyS d = T) || (decide (T = "int") && decide (tyS d = "bool"))
def tyL : List String := ["str", "int", "list", "tuple", "bool", "dict"]
theorem kit_all : (["NoneType", "bool", "int", "str", "list", "tuple", "dict"].all fun a => tyL.all fun T => decide (kitB a T = some (decide (a = T) || (decide (T = "int") && decide (a = "bool"))))) = true := by decide +kernel
theorem tyS_mem (d : D) : tyS d ∈ ["NoneType", "bool", "int", "str", "list", "tuple", "dict"] := by cases d <;> simp [tyS]
theorem kit_isi {K : PySem.W.Frag} {T : String} (h : T ∈ tyL) (d : D) : PySem.W.kitOne K (.type (tyS d)) (.type T) = some (isiD T d) := by
  have h1 := List.all_eq_true.mp kit_all _ (tyS_mem d)
  have h2 := List.all_eq_true.mp h1 _ h
  exact kit_ty (of_decide_eq_true h2)
theorem tyx_of {K : PySem.W.Frag} {Hf H : Hp} {v : V} {d : D} (e : Ex Hf H) (r : RpH K Hf H v d) : TyX K H v (.type (tyS d)) := by
  cases r.full e with
  | non => exact .base .non
  | bl b => exact .base (.bl b)
  | int i => exact .base (.int i)
  | str s => exact .base (.str s)
  | lst h _ => exact .base (.lst h)
  | tup h _ =>
    rcases h with (h | ⟨o, h⟩) | ⟨o, its, n, h1, h2, _⟩
    · exact .base (.tup h)
    · exact .fTuple h
    · exact .kTuple h1 h2
  | dic h _ => exact .base (.dK h)
def wIsi (T : String) (we : WE) : WE := fun r k x => we r (fun y r1 => dref y r1 fun d => k (.d (.bool (isiD T d))) r1) x
def wIsi2 (T U : String) (we : WE) : WE := fun r k x => we r (fun y r1 => dref y r1 fun d => k (.d (.bool (isiD T d || isiD U d))) r1) x
section
variable {X : Cx} {W : WX} {pos p p2 p3 p4 apos cpos : Pos} {o a b e : Expr} {we wa wb : WE} {T U : String} {n name : Str}
theorem se_isi {tn : Str} (hm : X.mg "isinstance" = none) (hmT : X.mg tn = none) (hT : bootBuiltins tn = some (.type T)) (hL : T ∈ tyL) (h : SE X W e we) (hg : Gl X "isinstance" := by rfl) (hgT : Gl X tn := by rfl) (hn : tn ≠ "__name__" := by decide) (hd : (tn == ("__debug__" : Str)) = false := by decide)
    (he : starEach (e :: [.Name tn p2]) X.env = (false, eval e X.env) :: starEach [.Name tn p2] X.env := by rfl) (he2 : starEach [.Name tn p2] X.env = (false, eval (.Name tn p2) X.env) :: starEach [] X.env := by rfl) (hpl : (backTo pos (starEach [.Name tn p2] X.env)).any (·.1) = false := by rfl) :
    SE X W (.Call (.Name "isinstance" p) [e, .Name tn p2] [] pos) (wIsi T we) := by
  refine peI (pe_callB call_isi hg hm rfl (pa_cons h (pa_cons (pe_bltn (v := .ty T) hgT hmT hT rfl hn hd) pa_nil he2) he) (by decide) (by decide) he hpl) fun s H Q h => ?_
  obtain ⟨am, Hf, r, k, x, S, hw, hk, hx⟩ := h
  refine ⟨am, Hf, r, _, x, S, hw, fun y r1 am1 Hf1 H1 v p1 S1 rr q => ?_, hx⟩
  obtain ⟨d, rd, q⟩ := dref_ok S1 rr q
  exact ⟨v, .ty T, _, _, _, rfl, .ty T, tyx_of S1.le rd, kit_isi hL d, hk (.d (.bool (isiD T d))) r1 am1 Hf1 H1 _ p1 S1 (Rp.bl _) q⟩
end
/-! ### repr of data -/
mutual
theorem noDict : ∀ {d : D}, d.canLay0 = true → d.hasDict = false
  | .none, _ => by simp [PyData.hasDict]
  | .bool _, _ => by simp [PyData.hasDict]
  | .int _, _ => by simp [PyData.hasDict]
  | .str _, _ => by simp [PyData.hasDict]
  | .list _, h => by
    rw [PyData.hasDict]
    exact noDictA (by simpa [PyData.canLay0] using h)
  | .tuple _, h => by
    rw [PyData.hasDict]
    exact noDictA (by simpa [PyData.canLay0] using h)
  | .dict _, h => by simp [PyData.canLay0] at h
theorem noDictA : ∀ {d : List D}, PyData.canLayAll0 d = true → PyData.hasDictAll d = false
  | [], _ => by simp [PyData.hasDictAll]
  | d :: ds, h => by
    have h' : (d.canLay0 && PyData.canLayAll0 ds) = true := by simpa [PyData.canLayAll0] using h
    rw [Bool.and_eq_true] at h'
    rw [PyData.hasDictAll, noDict h'.1, noDictA h'.2]
    rfl
end
def gRepr : GA := fun ds k => match ds with
  | [d] => shp d = true ∧ d.showable = true ∧ d.shown.length ≤ sizeLine ∧ k (.str d.shown)
  | _ => False
section
variable {X : Cx}
/-! ### methods that change a list -/
def uAppend : GU := fun cur ds k => match ds with
  | [d] => cur.length < sizeLine ∧ k .none (cur ++ [d])
  | _ => False
theorem o_append : OpU X "list.append" uAppend := by
  refine ⟨_, mt_append (X := X), fun a cur xs Hf H dc ds k Q e ha rc rx q F => ?_⟩
  unfold uAppend at q
  split at q
  · cases rx with
    | cons r t =>
      cases t
      exact ⟨a, cur, _, rfl, rfl, ha, by rw [rc.length]; exact q.1, F _ _ _ _ .non (rc.append (.cons r .nil)) q.2⟩
  · exact q.elim
theorem RpA.dropLast {K : PySem.W.Frag} {H : Hp} {vs : List V} {ds : List D} (r : RpA K H vs ds) : RpA K H vs.dropLast ds.dropLast := by
  rw [List.dropLast_eq_take, List.dropLast_eq_take, r.length]
  exact r.take _
theorem RpA.erase {K : PySem.W.Frag} {H : Hp} : ∀ (n : Nat) {vs : List V} {ds : List D}, RpA K H vs ds → RpA K H (vs.eraseIdx n) (ds.eraseIdx n)
  | _, _, _, .nil => .nil
  | 0, _, _, .cons _ r => r
  | n + 1, _, _, .cons h r => .cons h (r.erase n)
theorem callMOr {id : String} {r r' : V → List V → Hp → VK → Prop} (h : MtR X id r) (h' : MtR X id r') : MtR X id (fun x xs H Q => r x xs H Q ∨ r' x xs H Q) := fun pins s σ H x xs v us Q I rx rv q => q.elim (fun q => h pins s σ H x xs v us Q I rx rv q) fun q => h' pins s σ H x xs v us Q I rx rv q
def uPop : GU := fun cur ds k => match ds with
  | [] => match cur.getLast? with
    | some d => k d cur.dropLast
    | none => False
  | [.int i] => (-(2 ^ 62) ≤ i ∧ i < 2 ^ 62) ∧ match ixN cur.length i with
    | some j => match cur[j]? with
      | some d => k d (cur.eraseIdx j)
      | none => False
    | none => False
  | _ => False
theorem o_pop : OpU X "list.pop" uPop := by
  refine ⟨_, callMOr (mt_pop (X := X)) (mt_popAt (X := X)), fun a cur xs Hf H dc ds k Q e ha rc rx q F => ?_⟩
  unfold uPop at q
  split at q
  · cases rx
    rw [List.getLast?_eq_getElem?] at q
    split at q
    · rename_i d hd
      obtain ⟨v, hv, rv⟩ := rc.getD hd
      exact .inl ⟨a, cur, v, rfl, rfl, ha, by rw [rc.length]; exact hv, F _ _ _ _ rv rc.dropLast q⟩
    · exact q.elim
  · cases rx with
    | cons r t =>
      cases t
      cases r
      obtain ⟨⟨b1, b2⟩, q⟩ := q
      split at q
      · rename_i j hj
        split at q
        · rename_i d hd
          obtain ⟨v, hv, rv⟩ := rc.getD hd
          exact .inr ⟨a, cur, _, j, v, rfl, rfl, ha, by omega, by omega, by rw [rc.length]; exact (ixN_seq hj).1, hv, F _ _ _ _ rv (rc.erase j) q⟩
        · exact q.elim
      · exact q.elim
  · exact q.elim
/-! ### methods of texts -/
def mJoin : GM := fun x ds k => match x, ds with
  | .str a, [.list l] => withO (strsD l) fun ys => (ys.map (·.length)).sum + ys.length * a.length ≤ 16777216 ∧ k (.str (Txt.join a ys))
  | .str a, [.tuple l] => withO (strsD l) fun ys => (ys.map (·.length)).sum + ys.length * a.length ≤ 16777216 ∧ k (.str (Txt.join a ys))
  | _, _ => False
theorem o_join : OpM X "str.join" mJoin := by
  refine ⟨_, mt_join (X := X), fun x xs Hf H dx ds k Q e rx rs q F => ?_⟩
  unfold mJoin at q
  split at q
  · obtain ⟨v, rfl, r⟩ := hs1 rs
    obtain ⟨a, ys, rfl, h1, r1⟩ := r.list e
    obtain ⟨ns, en, q⟩ := withO_ok q
    have ex := strsD_ok en r1
    subst ex
    rw [rx.str]
    exact ⟨_, a, ns, rfl, rfl, .inl (Evl.sq_of h1), q.1, F.here e (.str _) q.2⟩
  · obtain ⟨v, rfl, r⟩ := hs1 rs
    obtain ⟨a, ys, rfl, h1, r1⟩ := r.tup
    obtain ⟨ns, en, q⟩ := withO_ok q
    have ex := strsD_ok en r1
    subst ex
    rw [rx.str]
    exact ⟨_, a, ns, rfl, rfl, .inr (Evl.ex_t e h1), q.1, F.here e (.str _) q.2⟩
  · exact q.elim
/-! ### list(range(..)), tuple(range(..)) -/
def rgD (a b : Int) : List D := (List.range (b - a).toNat).map fun i => .int (a + (i : Nat))
end
abbrev WRg := Env → (Int → Int → Env → Prop) → XQ → Prop
def wRg1 (w : WE) : WRg := fun r k x => w r (fun y r1 => isI y fun n => k 0 n r1) x
def wRg2 (w u : WE) : WRg := fun r k x => w r (fun y r1 => u r1 (fun z r2 => isI y fun i => isI z fun j => k i j r2) x) x
def wLstRg (w : WRg) : WL := fun r k x => w r (fun a b r1 => RgOk a b ∧ k (rgD a b) r1) x
def wTupRg (w : WRg) : WE := fun r k x => w r (fun a b r1 => RgOk a b ∧ k (.d (.tuple (rgD a b))) r1) x
section
variable {X : Cx} {W : WX} {pos p p2 p3 p4 apos cpos : Pos} {o a b e : Expr} {we wa wb : WE}
/-! ### a list backwards -/
def wRevL (we : WE) : WL := fun r k x => we r (fun y r1 => dref y r1 fun d => match d with
  | .list ds => k ds.reverse r1
  | _ => False) x
theorem sl_rev {k : Nat} {p1 p2 p3 pos : Pos} (h : SE X W e we) : SL X W (.Subscript e (.Slice none none (some (.UnaryOp .USub (.Constant (.int 1) k p1) p2)) p3) pos) (wRevL we) := by
  refine peI (pe_revL h) fun s H Q q => ?_
  obtain ⟨am, Hf, r, k, x, S, hw, hk, hx⟩ := q
  refine ⟨am, Hf, r, _, x, S, hw, fun y r1 am1 Hf1 H1 v p1 S1 rr q => ?_, hx⟩
  obtain ⟨d, rd, q⟩ := dref_ok S1 rr q
  split at q
  · obtain ⟨a, xs, rfl, h1, h2⟩ := rd.list S1.le
    exact ⟨a, xs, rfl, Evl.sq_of h1, fun p hp => folL_at S1 p1 hk p _ _ Hf1 H1 (.refl S1.le) hp h2.reverse q⟩
  · exact q.elim
end
end Dl

/-! the data layer, part 12: small things that the printed texts lean on -/
namespace Dl
open PySem
open PySem.Spec
open PyProof.Rows
open L2
def low : List Nat := [97, 98, 99, 100, 101, 102, 103, 104, 105, 106, 107, 108, 109, 110, 111, 112, 113, 114, 115, 116, 117, 118, 119, 120, 121, 122]
def upp : List Nat := [65, 66, 67, 68, 69, 70, 71, 72, 73, 74, 75, 76, 77, 78, 79, 80, 81, 82, 83, 84, 85, 86, 87, 88, 89, 90]
abbrev cLow : Str := S low
abbrev cUp : Str := S upp
def wCallKP (n np m : Nat) (G : FS) (o : List Nat) (wr wk : WA) : WE := fun r kk xx => wCallK n G o (fun r k x => wr r (fun ys r1 => ys.length = np ∧ k ys r1) x) (fun r k x => wk r (fun zs r1 => zs.length = m ∧ k zs r1) x) r kk xx
section
variable {X : Cx} {W : WX} {k n m np : Nat} {f : Addr} {fd : FuncData} {ps ks : List Str} {G : FS} {x : Str} {p pos kpos : Pos} {e : Expr} {es : List Expr} {kws : List Keyword} {wr wk : WA} {we : WE} {o : List Nat}
/-- the calls again, with the counts apart -/
theorem sc_call (F : FnG X.prog X.w X.K X.mg X.base k f fd ps G) (hr : Room k X.A) (hgd : X.A.guards = some []) (tk : L2N.Takes X W) (hm : X.mg x = some (.ref f)) (hkp : PySem.W.keepIn X.K (.ref f) = true) (hb : Binds X.K fd ps []) (ha : SA X W (e :: es) wr) (hn : ps.length = n := by rfl) (hg : Gl X x := by rfl)
    (hdb : (x == ("__debug__" : Str)) = false := by decide) (he : starEach (e :: es) X.env = (false, eval e X.env) :: starEach es X.env := by rfl) (hpl : (backTo pos (starEach es X.env)).any (·.1) = false := by rfl) :
    SE X W (.Call (.Name x p) (e :: es) [] pos) (wCall n G wr) := by
  subst hn
  exact se_call F hr hgd tk hm hkp hb ha hg hdb he hpl
theorem sl_lcw {elt tg iter : Expr} {ifs : List Expr} {scope : Scope} (own : List (Str × Nat)) {t : Tg} {wi : WI} {wt : WT} {vs : List Nat} (hc : X.calm = true) (hN : X.N.Nodup) (hi : SI X W tg iter wi) (ok : blkC X.N X.env.scope scope own = true)
    (hg : ∀ (s : Shared) (H : Hp) (C : Addr) (cl : List (Str × Addr)) (fp : List Addr), SG (X.blk s H scope (compEnvC scope cl C X.env) fp) tg t)
    (ht : ∀ (s : Shared) (H : Hp) (C : Addr) (cl : List (Str × Addr)) (fp : List Addr), STs (X.blk s H scope (compEnvC scope cl C X.env) fp) ifs wt)
    (he : ∀ (s : Shared) (H : Hp) (C : Addr) (cl : List (Str × Addr)) (fp : List Addr), SE (X.blk s H scope (compEnvC scope cl C X.env) fp) W0 elt we)
    (hv : own.map (·.2) = vs := by rfl) (hs : ∀ i ∈ t.slots, i ∈ vs := by decide) (hf : ∀ x, foldedSetIterable iter X.env x = pure x := by intro _; rfl) :
    SL X W (.ListComp elt [⟨tg, iter, ifs, 0⟩] scope pos) (wLc t wi wt we vs) := by
  subst hv
  exact sl_lc hc hN hi ok hg ht he hs hf
theorem ps_lcw (i : Nat) {elt tg iter : Expr} {ifs : List Expr} {scope : Scope} (own : List (Str × Nat)) {t : Tg} {wi : WI} {wt : WT} {vs : List Nat} {y : Str} {spos py : Pos} (hc : X.calm = true) (hN : X.N.Nodup) (hi : SI X W tg iter wi) (ok : blkC X.N X.env.scope scope own = true)
    (hg : ∀ (s : Shared) (H : Hp) (C : Addr) (cl : List (Str × Addr)) (fp : List Addr), SG (X.blk s H scope (compEnvC scope cl C X.env) fp) tg t)
    (ht : ∀ (s : Shared) (H : Hp) (C : Addr) (cl : List (Str × Addr)) (fp : List Addr), STs (X.blk s H scope (compEnvC scope cl C X.env) fp) ifs wt)
    (he : ∀ (s : Shared) (H : Hp) (C : Addr) (cl : List (Str × Addr)) (fp : List Addr), SE (X.blk s H scope (compEnvC scope cl C X.env) fp) W0 elt we)
    (hy : X.N[i]? = some y := by rfl) (hyl : X.env.scope.names.lookup y = some .local := by rfl)
    (hsw : swapsWith (.ListComp elt [⟨tg, iter, ifs, 0⟩] scope pos) (some (.Name y py)) spos.line X.env = pure true := by rfl)
    (hv : own.map (·.2) = vs := by rfl) (hs : ∀ i ∈ t.slots, i ∈ vs := by decide) (hf : ∀ x, foldedSetIterable iter X.env x = pure x := by intro _; rfl) :
    PS X (.Assign [.Name y py] (.ListComp elt [⟨tg, iter, ifs, 0⟩] scope pos) spos) (tAsg (tL X.K X.mg W (wLc t wi wt we vs)) (gName i)) := by
  subst hv
  exact ps_lc i hc hN hi ok hg ht he hy hyl hsw hs hf
end
/-! ### a value, for good as data -/
def wFrz (we : WE) : WE := fun r k x => we r (fun y r1 => frz y r1 fun d r2 => k (.d d) r2) x
theorem se_frz {X : Cx} {W : WX} {e : Expr} {we : WE} (h : SE X W e we) : SE X W e (wFrz we) := peI h fun s H Q q => by
  obtain ⟨am, Hf, r, k, x, S, hw, hk, hx⟩ := q
  refine ⟨am, Hf, r, _, x, S, hw, fun y r1 am1 Hf1 H1 v p1 S1 rr q => ?_, hx⟩
  obtain ⟨d, r2, Hf2, p2, S2, rd, q2⟩ := frz_ok S1 rr q
  exact hk (.d d) r2 am1 Hf2 H1 v (p1.trans p2) S2 rd q2
/-! ### x, y, .. = e, e a list -/
def wUnpL (is : List Nat) (we : WE) : WS := fun r p => we r (fun y r1 => dref y r1 fun d => match d with
  | .list ds => putMany is (ds.map R.d) r1 p.nx
  | _ => False) p.ex
theorem ss_unpL {X : Cx} {W : WX} {e : Expr} {we : WE} {is : List Nat} {es : List Expr} {k : Nat} {pos tpos : Pos} (he : SE X W e we) (h : PGs X es (gNs is)) (hc : X.calm = true) (hn : (assignEach es X.env).length = is.length := by rfl) (hst : (assignEach es X.env).findIdx? (·.1) = none := by rfl)
    (hs : swapsWithSole [.Tuple es k tpos] e pos.line X.env = pure false := by rfl) (hw : swappedStores [.Tuple es k tpos] e X.env = pure none := by rfl) (h1 : (assignEach [.Tuple es k tpos] X.env).map (·.2) = [assign (.Tuple es k tpos) X.env] := by rfl) :
    SS X W (.Assign [.Tuple es k tpos] e pos) (wUnpL is we) := by
  refine psI (ps_asg he (pg_unl hc h hn hst) hs hw h1) fun Z s H h => ?_
  obtain ⟨am, Hf, r, p, S, hw, g1, g2, g3, g4, g5⟩ := h
  refine ⟨am, Hf, r, _, p.ex, S, hw, fun y r1 am1 Hf1 H1 v p1 S1 rr q => ?_, g5.at⟩
  obtain ⟨d, rd, q⟩ := dref_ok S1 rr q
  split at q
  · rename_i ds
    obtain ⟨a, xs, rfl, hx, ra⟩ := rd.list S1.le
    obtain ⟨r', S', hl, q⟩ := putMany_ok S1 (rpa_pair ra) q
    exact ⟨a, xs, rfl, Evl.sq_of hx, hl.symm, gNs_of (vs := []) hl (g1 r' am1 Hf1 H1 _ p1 S' q)⟩
  · exact q.elim
end Dl

/-! the data layer, part 13: displays of dicts, texts and tuples backwards -/
namespace Dl
open PySem
open PySem.Spec
open PyProof.Rows
open L2
open Evl (Ex)
section
variable {X : Cx} {W : WX} {pos : Pos} {e ek ev : Expr} {we wk wv : WE}
def keyD (y : R) (k : Key → Prop) : Prop := match y with
  | .d (.str z) => k (.inr z)
  | .d (.int i) => k (.inl i)
  | _ => False
def wDic1 (wk wv : WE) : WE := fun r k x => wk r (fun a r1 => wv r1 (fun b r2 => keyD a fun c => frz b r2 fun d r3 => k (.d (.dict [(kD c, d)])) r3) x) x
end
/-! ### list(a text) -/
section
variable {X : Cx}
def gListA : GLA := fun ds k => match ds with
  | [.str z] => z.length ≤ sizeLine ∧ k (signs z)
  | ds => gListL ds k
end
end Dl

/-! zip of a tuple and a list -/
namespace Dl
open PySem
open PySem.Spec
open PyProof.Rows
open L2
open Evl (Ex)
def wZipM (wr : WA) : WI := fun r k x => wr r (fun ys r1 => frzs ys r1 fun ds r2 => match ds with
  | [.tuple a, .list b] => k (pairs a b) r2
  | _ => False) x
end Dl

/-! a text backwards -/
namespace Dl
open PySem
open PySem.Spec
open PyProof.Rows
open L2
open Evl (Ex)
def revZ (z : Str) : Str := ⟨z.cps.toList.reverse.toArray⟩
section
variable {X : Cx} {W : WX} {pos : Pos} {e : Expr} {we : WE}
def wRevS (we : WE) : WE := fun r k x => we r (fun y r1 => dref y r1 fun d => match d with
  | .str z => z.length ≤ sizeLine ∧ k (.d (.str (revZ z))) r1
  | _ => False) x
/-- a number of any size times a small one -/
def gMulC : G2 := fun x y k => match x, y with
  | .int i, .int j => (-(2 ^ 64) < j ∧ j < 2 ^ 64) ∧ k (.int (i * j))
  | _, _ => False
end
end Dl

/-! list(range(a, b, -1)) -/
namespace Dl
open PySem
open PySem.Spec
open PyProof.Rows
open L2
open Evl (Ex)
section
variable {X : Cx} {W : WX} {pos p p2 pos2 : Pos} {a b c : Expr} {wr : WA} {ta : TA}
def wLst3 (wr : WA) : WL := fun r k x => wr r (fun ys r1 => drefs ys r1 fun ds => match ds with
  | [.int i, .int j, .int c] => c = -1 ∧ (-(2 ^ 62) ≤ i ∧ i < 2 ^ 62 ∧ -(2 ^ 62) ≤ j ∧ j < 2 ^ 62) ∧ (i - j).toNat ≤ 2 ^ 24 ∧ k (intRC i (-1) (i - j).toNat) r1
  | _ => False) x
end
end Dl

/-! sum of a tuple -/
namespace Dl
open PySem
open PySem.Spec
open PyProof.Rows
open L2
open Evl (Ex)
section
variable {X : Cx}
end
end Dl

/-! a tuple backwards; repr of data with an empty dict in it -/
namespace Dl
open PySem
open PySem.Spec
open PyProof.Rows
open L2
open Evl (Ex)
section
variable {prog : Program} {w : World} {A : Around} {E : Value → Shared → Prop} {s : Shared}
end
theorem RpA.rev {K : PySem.W.Frag} {H : Hp} : ∀ {xs : List V} {ds : List D}, RpA K H xs ds → RpA K H xs.reverse ds.reverse
  | _, _, .nil => .nil
  | x :: xs, d :: ds, .cons r t => by
    rw [List.reverse_cons, List.reverse_cons]
    exact (RpA.rev t).append (.cons r .nil)
section
variable {X : Cx} {W : WX} {pos : Pos} {e : Expr} {we : WE}
end
/-! ### repr of tuples with an empty dict in them -/
mutual
def tupOnly : D → Bool
  | .none => true
  | .bool _ => true
  | .int _ => true
  | .str _ => true
  | .list _ => false
  | .tuple ds => tupOnlyA ds
  | .dict es => es.isEmpty
def tupOnlyA : List D → Bool
  | [] => true
  | d :: ds => tupOnly d && tupOnlyA ds
end
section
variable {X : Cx} {pins : List (Addr × Obj)} {σ : L2.St} {H : Hp} {s : Shared}
mutual
theorem Rp.readsT (I : Inv X pins σ H s) : ∀ (d : D) (v : V) (u : Value), tupOnly d = true → Rp X.K H v d → RelV v u → ∃ as, Reads s.heap u d as ∧ sysModules ∉ as
  | .none, _, _, _, h, r => by
    cases h
    cases r
    exact ⟨_, Reads.none, by simp⟩
  | .bool b, _, _, _, h, r => by
    cases h
    cases r
    exact ⟨_, Reads.bool b, by simp⟩
  | .int i, _, _, _, h, r => by
    cases h
    obtain ⟨t, rfl⟩ := r
    exact ⟨_, Reads.int i t, by simp⟩
  | .str x, _, _, _, h, r => by
    cases h
    obtain ⟨t, rfl⟩ := r
    exact ⟨_, Reads.str x t, by simp⟩
  | .list ds, _, _, z, _, _ => by simp [tupOnly] at z
  | .tuple ds, _, _, z, h, r => by
    cases h with
    | tup hs ha =>
      cases r
      obtain ⟨its, rv, ⟨o, ho, hc, n, hd⟩, _⟩ := I.tuple hs
      obtain ⟨as, hr, hn⟩ := RpA.readsT I ds _ its (by simpa [tupOnly] using z) ha rv
      exact ⟨_, Reads.tuple ho hc hd hr, hn⟩
  | .dict es, _, _, z, h, r => by
    cases h with
    | dic hs ha =>
      cases r
      have ee : es = [] := by simpa [tupOnly] using z
      subst ee
      cases ha
      obtain ⟨_, hsm, vs, rel, ho⟩ := I.hok _ _ hs
      obtain ⟨o, es, ep, hg, hcl, hdt, _, hp, _⟩ := ho
      have ev : vs = [] := by
        cases rel
        rfl
      subst ev
      have e0 : es.toList = [] := List.length_eq_zero_iff.mp (by rw [hp.length]; rfl)
      refine ⟨_, Reads.dict hg hcl.1 hdt (kvs := []) (as := []) (bs := []) (by rw [e0]; exact .nil) (by rw [e0]; exact .nil), ?_⟩
      simp
      intro q
      rw [q] at hsm
      simp at hsm
theorem RpA.readsT (I : Inv X pins σ H s) : ∀ (ds : List D) (vs : List V) (us : List Value), tupOnlyA ds = true → RpA X.K H vs ds → Vals vs us → ∃ as, ReadsAll s.heap us ds as ∧ sysModules ∉ as
  | [], _, _, _, h, r => by
    cases h
    cases r
    exact ⟨_, ReadsAll.nil, by simp⟩
  | d :: ds, _, _, z, h, r => by
    have z' : tupOnly d = true ∧ tupOnlyA ds = true := by simpa [tupOnlyA] using z
    cases h with
    | cons h1 h2 =>
      cases r with
      | cons r1 r2 =>
        obtain ⟨as, q1, n1⟩ := Rp.readsT I d _ _ z'.1 h1 r1
        obtain ⟨bs, q2, n2⟩ := RpA.readsT I ds _ _ z'.2 h2 r2
        exact ⟨_, ReadsAll.cons q1 q2, by simp [n1, n2]⟩
end
end
section
variable {X : Cx}
end
/-! ### a list against [] -/
section
variable {X : Cx}
def gNeN : GB := fun x y k => match x, y with
  | .list l, .list [] => k (!l.isEmpty)
  | _, _ => False
end
/-! ### a tuple so many times -/
section
variable {X : Cx}
end
end Dl

/-! an exception that is caught and kept -/
namespace Dl
open PySem
open PySem.Spec
open PyProof.Rows
open L2
open Evl (Ex)
section
variable {X : Cx} {pins : List (Addr × Obj)} {σ : L2.St} {H : Hp} {s : Shared}
end
section
variable {X : Cx} {x n mm : Str} {c : Value} {i j : Nat} {body : List Stmt} {np pos pos' p1 p2 p3 : Pos} {tb : WX → TS} {Wout : WX}
end
/-! ### the data layer's try -/
def wTry (cs : List Str) (i j : Nat) (wb : WS) : WS := fun r p => wb r { p with ex := fun e r' => e.cn ∈ cs ∧ e.fs = [] ∧ p.nx ⟨(r'.sl.set i none).set j (some (.o (.exc e))), r'.st⟩ }
section
variable {K : PySem.W.Frag} {mg : Str → Option Value} {am : Am} {Hf H : Hp} {s : L2.St} {r : Env}
end
/-- the same of classes with fields -/
def wTryF (cs : List Str) (i j : Nat) (wb : WS) : WS := fun r p => wb r { p with ex := fun e r' => e.cn ∈ cs ∧ p.nx ⟨(r'.sl.set i none).set j (some (.o (.exc e))), r'.st⟩ }
section
variable {X : Cx} {W : WX} {x n mm : Str} {c : Value} {i j : Nat} {body : List Stmt} {np pos pos' p1 p2 p3 : Pos} {wb : WS} {cs : List Str}
end
/-! ### isinstance of an exception that is kept -/
section
open PySem.W
end
/-- the dict that an exception has, if it has one -/
def FsD (H : Hp) (dd : Option Addr) : Prop := ∀ b, dd = some b → ∃ vs, H b = some (.xd vs)
theorem FsD.ex {H H' : Hp} {dd : Option Addr} (e : Ex H H') (h : FsD H dd) : FsD H' dd := fun b hb => (h b hb).imp fun _ q => e _ _ q
def wIsX (tab : List (Str × Bool)) (we : WE) : WE := fun r k x => we r (fun y r1 => match y with
  | .o (.exc e) => match tab.lookup e.cn with
    | some b => k (.d (.bool b)) r1
    | none => False
  | _ => False) x
/-- what is known of the classes -/
def TabOk (K : PySem.W.Frag) (mg : Str → Option Value) (cv : Value) (tab : List (Str × Bool)) : Prop := ∀ cn b, tab.lookup cn = some b → ∀ C, mg cn = some (.ref C) → ExcC K C ∧ PySem.W.kitOne K (.ref C) cv = some b
section
variable {X : Cx} {W : WX} {pos p p2 : Pos} {e : Expr} {we : WE}
/-! ### x is None, of an exception that may be kept -/
def wIsNo (we : WE) : WT := fun r k x => we r (fun y r1 => match y with
  | .o (.exc _) => k false r1
  | y => dref y r1 fun d => gIs d .none fun b => k b r1) x
/-! ### what is never looked at -/
end
/-! ### repr of a list that is made there -/
def wReprL (wr : WA) : WE := fun r k x => wr r (fun ys r1 => drefs ys r1 fun ds => ys.length ≤ sizeLine ∧ ((shp (.list ds) = true) ∨ (tupOnlyA ds = true ∧ (PyData.list ds).depth ≤ 64)) ∧ (PyData.list ds).showable = true ∧ (PyData.list ds).shown.length ≤ sizeLine ∧ k (.d (.str (PyData.list ds).shown)) r1) x
section
variable {X : Cx} {W : WX} {pos p p2 : Pos} {es : List Expr} {wr : WA} {ta : TA}
theorem TabOk.one {K : PySem.W.Frag} {mg : Str → Option Value} {cv : Value} {cn : Str} {c : Addr} {b : Bool} (hm : mg cn = some (.ref c)) (E : ExcC K c) (hk : PySem.W.kitOne K (.ref c) cv = some b) : TabOk K mg cv [(cn, b)] := by
  intro x b' h C hC
  rw [List.lookup_cons] at h
  split at h
  · rename_i hx
    have e : x = cn := eq_of_beq hx
    subst e
    rw [hm] at hC
    cases hC
    cases h
    exact ⟨E, hk⟩
  · cases h
end
end Dl

/-! the data layer: sorted(set(xs)), xs a list of ints -/
namespace Dl
open PySem
open PySem.Spec
open PyProof.Rows
open L2
open Evl (Ex)
section
variable {P : Program} {w : World} {A : Around} {E : Value → Shared → Prop} {s : Shared}
end
section
variable {X : Cx}
variable {W : WX} {we : WE} {e : Expr} {p p2 pos pos2 : Pos}
end
end Dl

/-! zip of a list and a tuple -/
namespace Dl
open PySem
open PySem.Spec
open PyProof.Rows
open L2
open Evl (Ex)
end Dl

/-! the data layer, part M: instances of own classes: their fields in the store -/
namespace Dl
open PySem
open PySem.Spec
open PyProof.Rows
open L2
open Evl (Ex)

/-! ### lists of fields -/
def setA : List D → Nat → D → List D
  | [], _, d => [d]
  | _ :: t, 0, d => d :: t
  | x :: t, j + 1, d => x :: setA t j d
theorem setA_at {d : D} : ∀ {ds : List D} {j : Nat}, j ≤ ds.length → (setA ds j d).length = max ds.length (j + 1) ∧ ∀ i, (setA ds j d)[i]? = if i = j then some d else ds[i]?
  | [], 0, _ => ⟨rfl, fun i => by
    cases i with
    | zero => rfl
    | succ i => simp [setA]⟩
  | [], j + 1, h => by simp at h
  | x :: t, 0, _ => ⟨by simp [setA], fun i => by
    cases i with
    | zero => rfl
    | succ i => simp [setA]⟩
  | x :: t, j + 1, h => by
    obtain ⟨h1, h2⟩ := setA_at (d := d) (ds := t) (j := j) (by simpa using h)
    refine ⟨by simp [setA, h1], fun i => ?_⟩
    cases i with
    | zero => simp [setA]
    | succ i =>
      have := h2 i
      simp [setA, this]
theorem putF_at {f : Str} {v : V} : ∀ {fs : List (Str × V)} {N : List Str} {j : Nat}, N.Nodup → fs.map (·.1) = N.take fs.length → N[j]? = some f → j ≤ fs.length →
    (putF f v fs).length = max fs.length (j + 1) ∧ (putF f v fs).map (·.1) = N.take (max fs.length (j + 1)) ∧ ∀ i, (putF f v fs)[i]? = if i = j then some (f, v) else fs[i]?
  | [], N, 0, _, _, hj, _ => by
    cases N with
    | nil => cases hj
    | cons g N =>
      obtain rfl : g = f := by simpa using hj
      refine ⟨rfl, by simp [putF], fun i => ?_⟩
      cases i with
      | zero => rfl
      | succ i => simp [putF]
  | [], _, j + 1, _, _, _, h => by simp at h
  | (g, x) :: r, N, j, hn, hm, hj, h => by
    cases N with
    | nil => cases hj
    | cons g' N =>
      simp only [List.map_cons, List.length_cons, List.take_succ_cons, List.cons.injEq] at hm
      obtain ⟨rfl, hm⟩ := hm
      obtain ⟨hg, hn⟩ := List.nodup_cons.mp hn
      cases j with
      | zero =>
        obtain rfl : g = f := by simpa using hj
        have e : putF g v ((g, x) :: r) = (g, v) :: r := if_pos rfl
        rw [e]
        refine ⟨by simp, by simp [hm], fun i => ?_⟩
        cases i with
        | zero => rfl
        | succ i => simp
      | succ j =>
        have hj : N[j]? = some f := by simpa using hj
        have ne : g ≠ f := fun z => hg (z ▸ List.mem_of_getElem? hj)
        have e : putF f v ((g, x) :: r) = (g, x) :: putF f v r := if_neg ne
        obtain ⟨h1, h2, h3⟩ := putF_at (v := v) hn hm hj (by simpa using h)
        rw [e]
        refine ⟨by simp [h1], by simp [h2], fun i => ?_⟩
        cases i with
        | zero => simp
        | succ i =>
          have := h3 i
          simp [this]
theorem lookup_at {f : Str} {v : V} : ∀ {fs : List (Str × V)} {j : Nat}, (fs.map (·.1)).Nodup → fs[j]? = some (f, v) → fs.lookup f = some v
  | (g, x) :: r, 0, _, h => by
    obtain ⟨rfl, rfl⟩ := Prod.mk.inj (Option.some.inj h)
    simp [List.lookup]
  | (g, x) :: r, j + 1, hn, h => by
    obtain ⟨hg, hn⟩ := List.nodup_cons.mp hn
    have h : r[j]? = some (f, v) := by simpa using h
    have ne : (f == g) = false := beq_eq_false_iff_ne.mpr fun z => hg (z ▸ List.mem_map.mpr ⟨_, List.mem_of_getElem? h, rfl⟩)
    simp only [List.lookup, ne]
    exact lookup_at hn h
theorem lookup_no {f : Str} : ∀ {fs : List (Str × V)}, f ∉ fs.map (·.1) → fs.lookup f = none
  | [], _ => rfl
  | (g, x) :: r, h => by
    have ne : (f == g) = false := beq_eq_false_iff_ne.mpr fun z => h (by rw [z]; simp)
    simp only [List.lookup, ne]
    exact lookup_no fun z => h (by simp [z])
theorem flds_nd (cn : Str) : (flds cn).Nodup := by
  unfold flds
  split
  · decide
  · split
    · decide
    · split <;> decide
theorem flds_len (cn : Str) : (flds cn).length ≤ 8 := by
  unfold flds
  split
  · decide
  · split
    · decide
    · split <;> decide

/-! ### own lists and dicts -/
def OwnR (K : PySem.W.Frag) (Hf : Hp) (o : HO) (d : D) : Prop := (∃ xs es, o = .lst xs ∧ d = ownL es ∧ RpA K Hf xs es) ∨ (∃ kvs es, o = .dK kvs ∧ d = ownK es ∧ RpK K Hf kvs es)
theorem OwnR.mono {K : PySem.W.Frag} {Hf Hf1 : Hp} {o : HO} {d : D} (e : Ex Hf Hf1) : OwnR K Hf o d → OwnR K Hf1 o d
  | .inl ⟨xs, es, h1, h2, h3⟩ => .inl ⟨xs, es, h1, h2, h3.mono e⟩
  | .inr ⟨xs, es, h1, h2, h3⟩ => .inr ⟨xs, es, h1, h2, h3.mono e⟩
theorem itr_iff {K : PySem.W.Frag} {ow : List Addr} {Hf H : Hp} {v : V} {d : D} : ItR K ow Hf H v d ↔ Rp K Hf v d ∨ ∃ b o, v = .ref b ∧ b ∈ ow ∧ Hf b = none ∧ H b = some o ∧ OwnR K Hf o d := by
  constructor
  · rintro (h | ⟨b, xs, es, h0, h1, h2, h3, h4, h5⟩ | ⟨b, xs, es, h0, h1, h2, h3, h4, h5⟩)
    · exact .inl h
    · exact .inr ⟨b, _, h0, h2, h3, h4, .inl ⟨xs, es, rfl, h1, h5⟩⟩
    · exact .inr ⟨b, _, h0, h2, h3, h4, .inr ⟨xs, es, rfl, h1, h5⟩⟩
  · rintro (h | ⟨b, o, h0, h2, h3, h4, ⟨xs, es, rfl, h1, h5⟩ | ⟨xs, es, rfl, h1, h5⟩⟩)
    · exact .inl h
    · exact .inr (.inl ⟨b, xs, es, h0, h1, h2, h3, h4, h5⟩)
    · exact .inr (.inr ⟨b, xs, es, h0, h1, h2, h3, h4, h5⟩)
def unown : D → Option D
  | .dict [(.none, .list es)] => some (.list es)
  | .dict [(.none, .dict es)] => some (.dict es)
  | _ => none
theorem unown_rp {K : PySem.W.Frag} {Hf : Hp} {v : V} {d : D} (r : Rp K Hf v d) : unown d = none := by
  cases r with
  | dic h r =>
    cases r with
    | nil => rfl
    | @cons k v d vs ds h r =>
      cases k <;> rfl
  | _ => rfl
theorem own_of {K : PySem.W.Frag} {Hf : Hp} {o : HO} {d : D} (h : OwnR K Hf o d) : ∃ d', unown d = some d' ∧ ∀ b, Rp K (upd Hf b o) (.ref b) d' ∨ Hf b ≠ none := by
  rcases h with ⟨xs, es, rfl, rfl, h⟩ | ⟨xs, es, rfl, rfl, h⟩
  · refine ⟨_, rfl, fun b => ?_⟩
    by_cases hb : Hf b = none
    · exact .inl (.lst upd_same (h.mono (Evl.Ex.new hb)))
    · exact .inr hb
  · refine ⟨_, rfl, fun b => ?_⟩
    by_cases hb : Hf b = none
    · exact .inl (.dic upd_same (h.mono (Evl.Ex.new hb)))
    · exact .inr hb
def fput (r : Env) (n : Nat) (ds : List D) (j : Nat) (d : D) : Env := ⟨r.sl, r.st.set n (some (setA ds j d))⟩

section
variable {K : PySem.W.Frag} {mg : Str → Option Value} {am : Am} {Hf H : Hp} {s : L2.St} {r : Env} {n j : Nat} {a b C dx : Addr} {cn f : Str} {ds : List D} {fs : List (Str × V)} {v : V} {d : D}
/-- what an instance's place says -/
theorem Sim.insAt (S : Sim K mg am Hf H s r) (ha : am.pl[n]? = some (a, .ins cn)) (hd : r.st[n]? = some (some ds)) :
    Hf a = none ∧ ∃ C dx fs, H a = some (.ins C dx fs) ∧ mg cn = some (.ref C) ∧ fs.map (·.1) = (flds cn).take fs.length ∧ fs.length ≤ (flds cn).length ∧ FldR K am.ow Hf H fs ds := by
  obtain ⟨h0, o, h1, C, dx, fs, rfl, h2, h3, h4⟩ := S.cell n a _ ds ha hd
  have hl : fs.length ≤ (flds cn).length := by
    have := congrArg List.length h3
    rw [List.length_map, List.length_take] at this
    omega
  exact ⟨h0, C, dx, fs, h1, h2, by rw [h4.len]; exact h3, hl, h4⟩
/-- nobody holds b -/
def NoHold (am : Am) (st : Sto) (H : Hp) (b : Addr) : Prop := ∀ (n' : Nat) (a' : Addr) (cn' : Str) (C' dx' : Addr) (fs' : List (Str × V)) (j' : Nat) (f' : Str), Lv st n' → am.pl[n']? = some (a', .ins cn') → H a' = some (.ins C' dx' fs') → fs'[j']? ≠ some (f', .ref b)
/-- a field is stored -/
theorem Sim.wrF (S : Sim K mg am Hf H s r) (ha : am.pl[n]? = some (a, .ins cn)) (hd : r.st[n]? = some (some ds)) (e : H a = some (.ins C dx fs)) (hf : (flds cn)[j]? = some f) (hj : j ≤ ds.length)
    (it : ItR K am.ow Hf H v d) (ho : ∀ b, v = .ref b → b ∈ am.ow → Hf b = none → NoHold am r.st H b) :
    Stp am Hf H am Hf (upd H a (.ins C dx (putF f v fs))) ∧ Sim K mg am Hf (upd H a (.ins C dx (putF f v fs))) s (fput r n ds j d) := by
  obtain ⟨h0, C1, dx1, fs1, e1, hmg, hnm, hln, hr⟩ := S.insAt ha hd
  rw [e] at e1
  cases e1
  obtain ⟨q1, q2, q3⟩ := putF_at (v := v) (flds_nd cn) hnm hf (by rw [hr.len]; exact hj)
  obtain ⟨u1, u2⟩ := setA_at (d := d) hj
  have owa : ∀ b ∈ am.ow, b ≠ a := fun b hb => nd_ow S.nd ha hb
  have other : ∀ (m : Nat) (b : Addr) (k : Kd), am.pl[m]? = some (b, k) → m ≠ n → b ≠ a := fun m b k g hm z => hm (by
    rw [z] at g
    exact nd_ad S.nd g ha)
  have mvI : ∀ {v : V} {d : D}, ItR K am.ow Hf H v d → ItR K am.ow Hf (upd H a (.ins C dx (putF f v fs))) v d := fun h => h.mv (Evl.Ex.refl _) (fun _ z => z) (fun _ _ _ z => z) (fun b _ hb _ => upd_ne (owa b hb))
  refine ⟨⟨⟨⟨[], by simp⟩, fun _ h => h⟩, fun _ h => .inl h, Evl.Ex.refl _, fun b o h hn => ?_, fun _ _ h => .inl h, fun b h => ?_⟩, fun b o h => ?_, ?_, S.nd, fun b hb => ?_, fun m b kk es g1 g2 => ?_, ?_, S.sl, S.sz⟩
  · have hb : b ≠ a := fun z => hn (z ▸ mem_ad ha)
    rw [upd_ne hb]
    exact h
  · by_cases hb : b = a
    · rw [hb, upd_same]
      simp
    · rw [upd_ne hb]
      exact h
  · have hb : b ≠ a := fun z => by
      rw [z, h0] at h
      cases h
    rw [upd_ne hb]
    exact S.le b o h
  · show (r.st.set n _).length = am.pl.length
    rw [List.length_set]
    exact S.len
  · by_cases hba : b = a
    · rw [hba, upd_same]
      simp
    · rw [upd_ne hba]
      exact S.tr b hb
  · have g2' : (r.st.set n (some (setA ds j d)))[m]? = some (some es) := g2
    by_cases hm : m = n
    · rw [hm, List.getElem?_set_self (List.getElem?_eq_some_iff.mp hd).1] at g2'
      have e1 : setA ds j d = es := by simpa using g2'
      rw [hm, ha] at g1
      obtain ⟨e2, e3⟩ := Prod.mk.inj (Option.some.inj g1)
      rw [← e1, ← e2, ← e3]
      refine ⟨h0, _, upd_same, C, dx, _, rfl, hmg, by rw [q2, u1, hr.len], by rw [q1, u1, hr.len], fun i p d' g3 g4 => ?_⟩
      rw [q3] at g3
      rw [u2] at g4
      by_cases hi : i = j
      · rw [if_pos hi] at g3 g4
        obtain rfl := Option.some.inj g3
        obtain rfl := Option.some.inj g4
        exact it.mv (Evl.Ex.refl _) (fun _ z => z) (fun _ _ _ z => z) (fun b _ hb _ => upd_ne (owa b hb))
      · rw [if_neg hi] at g3 g4
        exact (hr.it i p d' g3 g4).mv (Evl.Ex.refl _) (fun _ z => z) (fun _ _ _ z => z) (fun b _ hb _ => upd_ne (owa b hb))
    · rw [List.getElem?_set_ne (Ne.symm hm)] at g2'
      obtain ⟨f0, ys, f1, f2⟩ := S.cell m b kk es g1 g2'
      exact ⟨f0, ys, by rw [upd_ne (other _ _ _ g1 hm)]; exact f1, CellR.mv (Evl.Ex.refl _) (fun _ z => z) (fun _ _ h => h) (fun c hc _ => upd_ne (owa c hc)) f2⟩
  · have lv : ∀ m, Lv (r.st.set n (some (setA ds j d))) m → Lv r.st m := fun m l => Lv.set hd l
    -- where a holding place stood before, or it is the new one
    have key : ∀ (m : Nat) (c : Addr) (cn' : Str) (C' dx' : Addr) (gs : List (Str × V)) (i : Nat) (g : Str) (b : Addr), am.pl[m]? = some (c, .ins cn') → upd H a (.ins C dx (putF f v fs)) c = some (.ins C' dx' gs) → gs[i]? = some (g, .ref b) →
        (m = n ∧ i = j ∧ v = .ref b) ∨ ∃ C' dx' gs, H c = some (.ins C' dx' gs) ∧ gs[i]? = some (g, .ref b) := fun m c cn' C' dx' gs i g b g1 g2 g3 => by
      by_cases hm : m = n
      · rw [hm, ha] at g1
        obtain ⟨e2, _⟩ := Prod.mk.inj (Option.some.inj g1)
        rw [← e2, upd_same] at g2
        cases g2
        rw [q3] at g3
        by_cases hi : i = j
        · rw [if_pos hi] at g3
          cases g3
          exact .inl ⟨hm, hi, rfl⟩
        · rw [if_neg hi] at g3
          exact .inr ⟨C, dx, fs, e2 ▸ e, g3⟩
      · rw [upd_ne (other _ _ _ g1 hm)] at g2
        exact .inr ⟨C', dx', gs, g2, g3⟩
    intro m m' c c' cn1 cn2 C1 dx1 C2 dx2 gs gs' i i' g g' b hb hn l1 l2 h1 h2 h3 h4 h5 h6
    rcases key _ _ _ _ _ _ _ _ _ h1 h2 h3 with ⟨k1, k2, k3⟩ | ⟨C1', dx1', gs1, k1, k2⟩
    · rcases key _ _ _ _ _ _ _ _ _ h4 h5 h6 with ⟨t1, t2, _⟩ | ⟨C2', dx2', gs2, t1, t2⟩
      · exact ⟨k1.trans t1.symm, k2.trans t2.symm⟩
      · exact absurd t2 (ho b k3 hb hn _ _ _ _ _ _ _ _ (lv _ l2) h4 t1)
    · rcases key _ _ _ _ _ _ _ _ _ h4 h5 h6 with ⟨t1, t2, t3⟩ | ⟨C2', dx2', gs2, t1, t2⟩
      · exact absurd k2 (ho b t3 hb hn _ _ _ _ _ _ _ _ (lv _ l1) h1 k1)
      · exact S.ou m m' c c' cn1 cn2 C1' dx1' C2' dx2' gs1 gs2 i i' g g' b hb hn (lv _ l1) (lv _ l2) h1 k1 k2 h4 t1 t2

/-- a new list or dict becomes one of a field's own -/
theorem Sim.own (S : Sim K mg am Hf H s r) (hb : b ∉ ad am) (h : H b ≠ none) (hn : Hf b = none) (hk : K.lookup b = none) : Sim K mg ⟨am.pl, am.ow ++ [b]⟩ Hf H s r ∧ NoHold ⟨am.pl, am.ow ++ [b]⟩ r.st H b := by
  have no : NoHold am r.st H b := fun n' a' cn' C' dx' fs' j' f' ⟨ds, l⟩ h1 h2 h3 => by
    obtain ⟨_, C1, dx1, fs1, e1, _, _, _, hr⟩ := S.insAt h1 l
    rw [h2] at e1
    cases e1
    have hlt : j' < ds.length := by
      rw [← hr.len]
      exact (List.getElem?_eq_some_iff.mp h3).1
    rcases itr_iff.mp (hr.it j' _ _ h3 (List.getElem?_eq_getElem hlt)) with q | ⟨c, o, q0, q1, _⟩
    · have : ∀ {v : V} {d : D}, Rp K Hf v d → v ≠ .ref b := fun q z => by
        cases q with
        | lst q _ =>
          cases z
          rw [hn] at q
          cases q
        | dic q _ =>
          cases z
          rw [hn] at q
          cases q
        | tup q _ =>
          cases z
          rcases q with q | ⟨o, _, _, q, _⟩
          · rcases q with q | ⟨_, q⟩
            · rw [hn] at q
              cases q
            · rw [hn] at q
              cases q
          · rw [hk] at q
            cases q
        | _ => cases z
      exact this q rfl
    · cases q0
      exact hb (mem_ow q1)
  refine ⟨⟨S.le, S.len, ?_, fun a ha => ?_, fun n a k ds h1 h2 => ?_, fun n n' a a' cn cn' C dx C' dx' fs fs' j j' f f' c hc hcn l1 l2 h1 h2 h3 h4 h5 h6 => ?_, fun i x hx => ?_, S.sz⟩, no⟩
  · show (am.pl.map (·.1) ++ (am.ow ++ [b])).Nodup
    rw [← List.append_assoc]
    exact List.nodup_append.mpr ⟨S.nd, by simp, fun x hx y hy => by
      rw [List.mem_singleton] at hy
      rintro rfl
      exact hb (hy ▸ hx)⟩
  · rcases List.mem_append.mp ha with ha | ha
    · exact S.tr a (List.mem_append_left _ ha)
    · rcases List.mem_append.mp ha with ha | ha
      · exact S.tr a (mem_ow ha)
      · rw [List.mem_singleton.mp ha]
        exact h
  · obtain ⟨g0, o, g1, g2⟩ := S.cell n a k ds h1 h2
    exact ⟨g0, o, g1, g2.mv (Evl.Ex.refl _) (fun _ z => List.mem_append_left _ z) (fun _ _ z => z) (fun _ _ _ => rfl)⟩
  · rcases List.mem_append.mp hc with hc | hc
    · exact S.ou n n' a a' cn cn' C dx C' dx' fs fs' j j' f f' c hc hcn l1 l2 h1 h2 h3 h4 h5 h6
    · rw [List.mem_singleton.mp hc] at h3
      exact absurd h3 (no _ _ _ _ _ _ _ _ l1 h1 h2)
  · obtain ⟨v, h1, h2⟩ := S.sl i x hx
    exact ⟨v, h1, RelR.grow (Evl.Ex.refl _) (fun _ _ z => z) h2⟩
/-- one's own list or dict, by the field -/
theorem Sim.holds (S : Sim K mg am Hf H s r) {d : D} (ha : am.pl[n]? = some (a, .ins cn)) (hd : r.st[n]? = some (some ds)) (hj : ds[j]? = some d) :
    ∃ C dx fs f v, Hf a = none ∧ H a = some (.ins C dx fs) ∧ mg cn = some (.ref C) ∧ (flds cn)[j]? = some f ∧ fs[j]? = some (f, v) ∧ fs.lookup f = some v ∧ ItR K am.ow Hf H v d ∧ fs.length ≤ 8 := by
  obtain ⟨h0, C, dx, fs, e, hmg, hnm, hln, hr⟩ := S.insAt ha hd
  have hlt : j < fs.length := by
    rw [hr.len]
    exact (List.getElem?_eq_some_iff.mp hj).1
  obtain ⟨⟨f, v⟩, hp⟩ : ∃ p, fs[j]? = some p := ⟨_, List.getElem?_eq_getElem hlt⟩
  have h1 : (fs.map (·.1))[j]? = some f := by
    rw [List.getElem?_map, hp]
    rfl
  have nd : (fs.map (·.1)).Nodup := by
    rw [hnm]
    exact (flds_nd cn).sublist (List.take_sublist _ _)
  rw [hnm, List.getElem?_take_of_lt hlt] at h1
  exact ⟨C, dx, fs, f, v, h0, e, hmg, h1, hp, lookup_at nd hp, hr.it j _ _ hp hj, Nat.le_trans hln (flds_len cn)⟩
/-- one's own list or dict is written -/
theorem Sim.ownset (S : Sim K mg am Hf H s r) {o' : HO} {d' : D} (ha : am.pl[n]? = some (a, .ins cn)) (hd : r.st[n]? = some (some ds)) (e : H a = some (.ins C dx fs)) (hp : fs[j]? = some (f, .ref b)) (hb : b ∈ am.ow) (hn : Hf b = none)
    (hw : OwnR K Hf o' d') : Stp am Hf H am Hf (upd H b o') ∧ Sim K mg am Hf (upd H b o') s (fput r n ds j d') := by
  obtain ⟨h0, C1, dx1, fs1, e1, hmg, hnm, hln, hr⟩ := S.insAt ha hd
  rw [e] at e1
  cases e1
  have hj : j ≤ ds.length := by
    rw [← hr.len]
    exact Nat.le_of_lt (List.getElem?_eq_some_iff.mp hp).1
  have hjl : j + 1 ≤ ds.length := by
    rw [← hr.len]
    exact (List.getElem?_eq_some_iff.mp hp).1
  obtain ⟨u1, u2⟩ := setA_at (d := d') hj
  rw [Nat.max_eq_left hjl] at u1
  have pla : ∀ (m : Nat) (c : Addr) (k : Kd), am.pl[m]? = some (c, k) → c ≠ b := fun m c k g => (nd_ow S.nd g hb).symm
  refine ⟨⟨⟨⟨[], by simp⟩, fun _ h => h⟩, fun _ h => .inl h, Evl.Ex.refl _, fun c o h hn => ?_, fun _ _ h => .inl h, fun c h => ?_⟩, fun c o h => ?_, ?_, S.nd, fun c hc => ?_, fun m c kk es g1 g2 => ?_, S.ou.mv (Evl.Ex.refl _) (fun m c k g => upd_ne (pla _ _ _ g)) (fun _ z => Lv.set hd z), S.sl, S.sz⟩
  · have hc : c ≠ b := fun z => hn (z ▸ mem_ow hb)
    rw [upd_ne hc]
    exact h
  · by_cases hc : c = b
    · rw [hc, upd_same]
      simp
    · rw [upd_ne hc]
      exact h
  · have hc : c ≠ b := fun z => by
      rw [z, hn] at h
      cases h
    rw [upd_ne hc]
    exact S.le c o h
  · show (r.st.set n _).length = am.pl.length
    rw [List.length_set]
    exact S.len
  · by_cases hcb : c = b
    · rw [hcb, upd_same]
      simp
    · rw [upd_ne hcb]
      exact S.tr c hc
  · have g2' : (r.st.set n (some (setA ds j d')))[m]? = some (some es) := g2
    by_cases hm : m = n
    · rw [hm, List.getElem?_set_self (List.getElem?_eq_some_iff.mp hd).1] at g2'
      have e1 : setA ds j d' = es := by simpa using g2'
      rw [hm, ha] at g1
      obtain ⟨e2, e3⟩ := Prod.mk.inj (Option.some.inj g1)
      rw [← e1, ← e2, ← e3]
      refine ⟨h0, _, (upd_ne (pla _ _ _ ha)).trans e, C, dx, _, rfl, hmg, by rw [u1, ← hr.len]; exact hnm, by rw [u1, hr.len], fun i p d1 g3 g4 => ?_⟩
      rw [u2] at g4
      by_cases hi : i = j
      · rw [if_pos hi] at g4
        obtain rfl := Option.some.inj g4
        rw [hi, hp] at g3
        obtain rfl := Option.some.inj g3
        exact itr_iff.mpr (.inr ⟨b, o', rfl, hb, hn, upd_same, hw⟩)
      · rw [if_neg hi] at g4
        refine (hr.it i p d1 g3 g4).mv (Evl.Ex.refl _) (fun _ z => z) (fun _ _ _ z => z) (fun c hv hc _ => upd_ne fun z => hi ?_)
        obtain ⟨p1, p2⟩ := p
        have hv : p2 = .ref c := hv
        rw [hv, z] at g3
        exact (S.ou n n a a cn cn C dx C dx fs fs i j p1 f b hb hn ⟨ds, hd⟩ ⟨ds, hd⟩ ha e g3 ha e hp).2
    · rw [List.getElem?_set_ne (Ne.symm hm)] at g2'
      obtain ⟨f0, ys, f1, f2⟩ := S.cell m c kk es g1 g2'
      refine ⟨f0, ys, by rw [upd_ne (pla _ _ _ g1)]; exact f1, ?_⟩
      cases kk with
      | lst => exact f2
      | ins cn' =>
        obtain ⟨C', dx', fs', rfl, t1, t2, t3⟩ := f2
        refine ⟨C', dx', fs', rfl, t1, t2, t3.len, fun i p d1 g3 g4 => ?_⟩
        refine (t3.it i p d1 g3 g4).mv (Evl.Ex.refl _) (fun _ z => z) (fun _ _ _ z => z) (fun c' hv hc _ => upd_ne fun z => hm ?_)
        obtain ⟨p1, p2⟩ := p
        have hv : p2 = .ref c' := hv
        rw [hv, z] at g3
        exact (S.ou m n c a cn' cn C' dx' C dx fs' fs i j p1 f b hb hn ⟨es, g2'⟩ ⟨ds, hd⟩ g1 f1 g3 ha e hp).1
/-- one's own list or dict becomes data -/
theorem Sim.thaw (S : Sim K mg am Hf H s r) {o : HO} {d' : D} (ha : am.pl[n]? = some (a, .ins cn)) (hd : r.st[n]? = some (some ds)) (e : H a = some (.ins C dx fs)) (hp : fs[j]? = some (f, .ref b)) (hb : b ∈ am.ow) (hn : Hf b = none)
    (ho : H b = some o) (hr : Rp K (upd Hf b o) (.ref b) d') : Stp am Hf H am (upd Hf b o) H ∧ Sim K mg am (upd Hf b o) H s (fput r n ds j d') := by
  obtain ⟨h0, C1, dx1, fs1, e1, hmg, hnm, hln, hr'⟩ := S.insAt ha hd
  rw [e] at e1
  cases e1
  have hj : j ≤ ds.length := by
    rw [← hr'.len]
    exact Nat.le_of_lt (List.getElem?_eq_some_iff.mp hp).1
  have hjl : j + 1 ≤ ds.length := by
    rw [← hr'.len]
    exact (List.getElem?_eq_some_iff.mp hp).1
  obtain ⟨u1, u2⟩ := setA_at (d := d') hj
  rw [Nat.max_eq_left hjl] at u1
  have pla : ∀ (m : Nat) (c : Addr) (k : Kd), am.pl[m]? = some (c, k) → c ≠ b := fun m c k g => (nd_ow S.nd g hb).symm
  have lf : Ex Hf (upd Hf b o) := Evl.Ex.new hn
  have st : Stp am Hf H am (upd Hf b o) H := ⟨⟨⟨[], by simp⟩, fun _ h => h⟩, fun _ h => .inl h, lf, fun c o h hn => h, fun c u h => by
    by_cases hc : c = b
    · rw [hc]
      exact .inr (.inr (mem_ow hb))
    · rw [upd_ne hc] at h
      exact .inl h, fun c h => h⟩
  refine ⟨st, fun c u h => ?_, ?_, S.nd, S.tr, fun m c kk es g1 g2 => ?_, S.ou.mv lf (fun m c k g => rfl) (fun _ z => Lv.set hd z), fun i x h1 => ?_, S.sz⟩
  · by_cases hc : c = b
    · rw [hc, upd_same] at h
      rw [hc, ho]
      exact h
    · rw [upd_ne hc] at h
      exact S.le c u h
  · show (r.st.set n _).length = am.pl.length
    rw [List.length_set]
    exact S.len
  · have g2' : (r.st.set n (some (setA ds j d')))[m]? = some (some es) := g2
    by_cases hm : m = n
    · rw [hm, List.getElem?_set_self (List.getElem?_eq_some_iff.mp hd).1] at g2'
      have e1 : setA ds j d' = es := by simpa using g2'
      rw [hm, ha] at g1
      obtain ⟨e2, e3⟩ := Prod.mk.inj (Option.some.inj g1)
      rw [← e1, ← e2, ← e3]
      refine ⟨(upd_ne (pla _ _ _ ha)).trans h0, _, e, C, dx, _, rfl, hmg, by rw [u1, ← hr'.len]; exact hnm, by rw [u1, hr'.len], fun i p d1 g3 g4 => ?_⟩
      rw [u2] at g4
      by_cases hi : i = j
      · rw [if_pos hi] at g4
        obtain rfl := Option.some.inj g4
        rw [hi, hp] at g3
        obtain rfl := Option.some.inj g3
        exact .inl hr
      · rw [if_neg hi] at g4
        refine (hr'.it i p d1 g3 g4).mv lf (fun _ z => z) (fun c hv hc h => ?_) (fun _ _ _ _ => rfl)
        refine (upd_ne fun z => hi ?_).trans h
        obtain ⟨p1, p2⟩ := p
        have hv : p2 = .ref c := hv
        rw [hv, z] at g3
        exact (S.ou n n a a cn cn C dx C dx fs fs i j p1 f b hb hn ⟨ds, hd⟩ ⟨ds, hd⟩ ha e g3 ha e hp).2
    · rw [List.getElem?_set_ne (Ne.symm hm)] at g2'
      obtain ⟨f0, ys, f1, f2⟩ := S.cell m c kk es g1 g2'
      refine ⟨(upd_ne (pla _ _ _ g1)).trans f0, ys, f1, ?_⟩
      cases kk with
      | lst =>
        obtain ⟨xs, t1, t2⟩ := f2
        exact ⟨xs, t1, t2.mono lf⟩
      | ins cn' =>
        obtain ⟨C', dx', fs', rfl, t1, t2, t3⟩ := f2
        refine ⟨C', dx', fs', rfl, t1, t2, t3.len, fun i p d1 g3 g4 => ?_⟩
        refine (t3.it i p d1 g3 g4).mv lf (fun _ z => z) (fun c' hv hc h => ?_) (fun _ _ _ _ => rfl)
        refine (upd_ne fun z => hm ?_).trans h
        obtain ⟨p1, p2⟩ := p
        have hv : p2 = .ref c' := hv
        rw [hv, z] at g3
        exact (S.ou m n c a cn' cn C' dx' C dx fs' fs i j p1 f b hb hn ⟨es, g2'⟩ ⟨ds, hd⟩ g1 f1 g3 ha e hp).1
  · obtain ⟨v, g1, g2⟩ := S.sl i x h1
    exact ⟨v, g1, g2.mono st⟩
/-- a new instance -/
theorem Sim.addIns (S : Sim K mg am Hf H s r) {x : Addr} (hx : H x = none) (hdx : H dx = none) (ne : dx ≠ x) (hmg : mg cn = some (.ref C)) :
    Stp am Hf H (am.add x (.ins cn)) Hf (upd (upd H dx (.own x)) x (.ins C dx [])) ∧ Sim K mg (am.add x (.ins cn)) Hf (upd (upd H dx (.own x)) x (.ins C dx [])) s ⟨r.sl, r.st ++ [some []]⟩ ∧ (am.add x (.ins cn)).pl[r.st.length]? = some (x, .ins cn) := by
  have e1 : Ex H (upd (upd H dx (.own x)) x (.ins C dx [])) := (Evl.Ex.new hdx).trans (Evl.Ex.new (by rw [upd_ne ne.symm]; exact hx))
  have hnx : x ∉ ad am := fun h => S.tr x h hx
  have hl : am.pl.length = r.st.length := S.len.symm
  have hat : (am.add x (.ins cn)).pl[r.st.length]? = some (x, Kd.ins cn) := by
    show (am.pl ++ [(x, Kd.ins cn)])[r.st.length]? = _
    rw [← hl, List.getElem?_append_right (Nat.le_refl _), Nat.sub_self]
    rfl
  have old : ∀ {n : Nat} {b : Addr × Kd}, am.pl[n]? = some b → (am.add x (.ins cn)).pl[n]? = some b := fun h => by
    show (am.pl ++ [(x, Kd.ins cn)])[_]? = _
    rw [List.getElem?_append_left (List.getElem?_eq_some_iff.mp h).1]
    exact h
  have there : ∀ b, H b ≠ none → upd (upd H dx (.own x)) x (.ins C dx []) b = H b := fun b hb => by
    cases q : H b with
    | none => exact absurd q hb
    | some o => exact e1 b o q
  have st : Stp am Hf H (am.add x (.ins cn)) Hf (upd (upd H dx (.own x)) x (.ins C dx [])) := ⟨⟨⟨_, rfl⟩, fun _ h => h⟩, fun b hb => by
    rcases ad_add.mp hb with hb | hb
    · exact .inl hb
    · rw [hb]
      exact .inr hx, Evl.Ex.refl _, fun b o h _ => e1 b o h, fun _ _ h => .inl h, fun b h => by rw [there b h]; exact h⟩
  refine ⟨st, ⟨S.le.trans e1, ?_, nd_add S.nd hnx, fun b hb => ?_, fun n b kk es h1 h2 => ?_, ?_, fun i y h1 => ?_, S.sz⟩, hat⟩
  · show (r.st ++ [some []]).length = (am.pl ++ [(x, Kd.ins cn)]).length
    rw [List.length_append, List.length_append, hl]
    rfl
  · rcases ad_add.mp hb with hb | hb
    · exact st.kp b (S.tr b hb)
    · rw [hb, upd_same]
      simp
  · have h2' : (r.st ++ [some []])[n]? = some (some es) := h2
    have h1 : (am.pl ++ [(x, Kd.ins cn)])[n]? = some (b, kk) := h1
    by_cases hlt : n < r.st.length
    · rw [List.getElem?_append_left hlt] at h2'
      rw [List.getElem?_append_left (by rw [hl]; exact hlt)] at h1
      obtain ⟨g0, o, g1, g2⟩ := S.cell n b kk es h1 h2'
      exact ⟨g0, o, e1 _ _ g1, g2.mv (Evl.Ex.refl _) (fun _ z => z) (fun _ _ z => z) (fun b _ hb => there b hb)⟩
    · have hn : n = r.st.length := by
        have := (List.getElem?_eq_some_iff.mp h1).1
        rw [List.length_append, hl] at this
        have e0 : [(x, Kd.ins cn)].length = 1 := rfl
        omega
      rw [hn, List.getElem?_append_right (Nat.le_refl _), Nat.sub_self] at h2'
      rw [hn, ← hl, List.getElem?_append_right (Nat.le_refl _), Nat.sub_self] at h1
      obtain ⟨e2, e3⟩ := Prod.mk.inj (Option.some.inj h1)
      have e4 : [] = es := by simpa using h2'
      rw [← e2, ← e3, ← e4]
      refine ⟨?_, _, upd_same, C, dx, [], rfl, hmg, rfl, rfl, fun j p d h => by simp at h⟩
      cases q : Hf x with
      | none => rfl
      | some o =>
        have := S.le x o q
        rw [hx] at this
        cases this
  · exact (S.ou.mv (Evl.Ex.refl _) (fun n b k g => there b (S.tr b (mem_ad g))) (fun _ z => z)).add S.len x (fun _ _ => ⟨C, dx, upd_same⟩)
  · obtain ⟨v, g1, g2⟩ := S.sl i y h1
    exact ⟨v, g1, RelR.grow (Evl.Ex.refl _) (fun _ _ z => old z) g2⟩
end
end Dl

/-! the data layer, part N: fields of instances: reading, storing, own lists and dicts -/
namespace Dl
open PySem
open PySem.Spec
open PyProof.Rows
open L2
open Evl (Ex)

def isRef (y : R) (cns : List Str) (k : Nat → Str → Prop) : Prop := match y with
  | .o (.ref n cn) => cn ∈ cns ∧ k n cn
  | _ => False
def fldAt (ds : List D) (j : Nat) (k : D → Prop) : Prop := match ds[j]? with
  | some d => k d
  | none => False
/-- e.f; an own list or dict becomes data by this -/
def wFld (cns : List Str) (j : Nat) (we : WE) : WE := fun r k x => we r (fun y r1 => isRef y cns fun n _ => lstAt r1 n fun ds => fldAt ds j fun d => match unown d with
  | some d' => k (.d d') (fput r1 n ds j d')
  | none => k (.d d) r1) x
/-- the field f is the j-th one of these classes -/
structure ClF (K : PySem.W.Frag) (mg : Str → Option Value) (cns : List Str) (f : Str) (j : Nat) : Prop where
  at_ : ∀ cn ∈ cns, (flds cn)[j]? = some f
  cl : ∀ cn ∈ cns, ∀ C, mg cn = some (.ref C) → Cls K C ∧ NoAttr K C f
section
variable {K : PySem.W.Frag} {mg : Str → Option Value} {am : Am} {Hf H : Hp} {s : L2.St} {r : Env} {v : V} {y : R} {cns : List Str} {ds : List D} {j : Nat}
theorem isRef_ok {k : Nat → Str → Prop} (rr : RelR K mg am Hf v y) (h : isRef y cns k) : ∃ n cn a, y = .o (.ref n cn) ∧ v = .ref a ∧ am.pl[n]? = some (a, .ins cn) ∧ cn ∈ cns ∧ k n cn := by
  cases y with
  | o b =>
    cases b with
    | ref n cn =>
      obtain ⟨a, h1, h2⟩ := rr
      exact ⟨n, cn, a, rfl, h1, h2, h.1, h.2⟩
    | _ => exact h.elim
  | _ => exact h.elim
theorem fldAt_ok {k : D → Prop} (h : fldAt ds j k) : ∃ d, ds[j]? = some d ∧ k d := by
  unfold fldAt at h
  cases e : ds[j]? with
  | none =>
    rw [e] at h
    exact h.elim
  | some d =>
    rw [e] at h
    exact ⟨d, rfl, h⟩
end
section
variable {X : Cx} {W : WX} {pos fpos : Pos} {e o i : Expr} {we wo wi : WE} {cns : List Str} {f : Str} {j : Nat}
theorem fld_of {s : L2.St} {H : Hp} {Q : VK} (hc : ClF X.K X.mg cns f j) (h : tE X.K X.mg W (wFld cns j we) s H Q) : tFld X.K (tE X.K X.mg W we) f s H Q := by
  obtain ⟨am, Hf, r, k, x, S, hw, hk, hx⟩ := h
  refine ⟨am, Hf, r, _, x, S, hw, fun y r1 am1 Hf1 H1 v p1 S1 rr q => ?_, hx⟩
  obtain ⟨n, cn, a, rfl, rfl, ha, hcn, q⟩ := isRef_ok rr q
  obtain ⟨ds, hd, q⟩ := lstAt_ok q
  obtain ⟨d, hj, q⟩ := fldAt_ok q
  obtain ⟨C, dx, fs, f', v, h0, e1, hmg, hf, hp, hlk, it, hl8⟩ := S1.holds ha hd hj
  rw [hc.at_ cn hcn] at hf
  obtain rfl := Option.some.inj hf
  obtain ⟨c, na⟩ := hc.cl cn hcn C hmg
  refine ⟨a, C, dx, fs, v, rfl, e1, c, na, hlk, ?_⟩
  rcases itr_iff.mp it with it | ⟨b, o, rfl, hb, hn, ho, hw⟩
  · rw [unown_rp it] at q
    exact hk (.d d) r1 am1 Hf1 H1 v p1 S1 it q
  · obtain ⟨d', u1, u2⟩ := own_of hw
    rw [u1] at q
    obtain ⟨p2, S2⟩ := S1.thaw ha hd e1 hp hb hn ho ((u2 b).resolve_right fun z => z hn)
    exact hk (.d d') _ am1 _ H1 _ (p1.trans p2) S2 ((u2 b).resolve_right fun z => z hn) q
theorem se_fld (hc : ClF X.K X.mg cns f j) (he : SE X W e we) (hb : attributeBase e f X.env (eval e X.env) = eval e X.env := by rfl) : SE X W (.Attribute e f pos) (wFld cns j we) :=
  peI (pe_fld he hb) fun _ _ _ => fld_of hc

/-! ### targets: names, fields of an instance in a slot -/
inductive Tt where
  | nm (i : Nat)
  | at (i j : Nat) (cns : List Str)
def slotRef (r : Env) (i : Nat) (cns : List Str) (k : Nat → Str → Prop) : Prop := match r.sl[i]? with
  | some (some y) => isRef y cns k
  | _ => False
def ttAsg : Tt → D → Env → (Env → Prop) → Prop
  | .nm i, d, r, k => k (r.put i (.d d))
  | .at i j cns, d, r, k => slotRef r i cns fun n _ => lstAt r n fun ds => j ≤ ds.length ∧ k (fput r n ds j d)
def ttMany : List Tt → List D → Env → (Env → Prop) → Prop
  | [], [], r, k => k r
  | t :: ts, d :: ds, r, k => ttAsg t d r fun r1 => ttMany ts ds r1 k
  | _, _, _, _ => False
theorem slotRef_ok {K : PySem.W.Frag} {mg : Str → Option Value} {am : Am} {Hf H : Hp} {s : L2.St} {r : Env} {i : Nat} {k : Nat → Str → Prop} (S : Sim K mg am Hf H s r) (h : slotRef r i cns k) :
    ∃ n cn a, s[i]? = some (some (.ref a)) ∧ am.pl[n]? = some (a, .ins cn) ∧ cn ∈ cns ∧ k n cn := by
  unfold slotRef at h
  cases e : r.sl[i]? with
  | none => simp [e] at h
  | some o =>
    cases o with
    | none => simp [e] at h
    | some y =>
      simp only [e] at h
      obtain ⟨v, h1, h2⟩ := S.sl i y e
      obtain ⟨n, cn, a, rfl, rfl, h3, h4, h5⟩ := isRef_ok h2 h
      exact ⟨n, cn, a, h1, h3, h4, h5⟩
def gTt (K : PySem.W.Frag) (mg : Str → Option Value) (t : Tt) : TG := fun v σ H Q => ∃ am Hf r d k, Sim K mg am Hf H σ r ∧ Rp K Hf v d ∧ ttAsg t d r k ∧
  ∀ r' am' Hf' H' σ', Stp am Hf H am' Hf' H' → Sim K mg am' Hf' H' σ' r' → k r' → Q σ' H'
theorem no_base {pins : List (Addr × Obj)} {σ : L2.St} {H : Hp} {s : Shared} {b : Addr} (I : Inv X pins σ H s) (h : H b ≠ none) : X.K.lookup b = none := by
  cases e : X.K.lookup b with
  | none => rfl
  | some o => exact absurd (I.bs b o (I.ok.mod.kin b o e)).2 h
theorem rp_ow {K : PySem.W.Frag} {Hf : Hp} {b : Addr} {d : D} (r : Rp K Hf (.ref b) d) (hk : K.lookup b = none) : Hf b ≠ none := fun z => by
  cases r with
  | lst q _ =>
    rw [z] at q
    cases q
  | dic q _ =>
    rw [z] at q
    cases q
  | tup q _ =>
    rcases q with q | ⟨o, _, _, q, _⟩
    · rcases q with q | ⟨_, q⟩
      · rw [z] at q
        cases q
      · rw [z] at q
        cases q
    · rw [hk] at q
      cases q
/-- x.f, x in slot i -/
theorem sg_tat (i : Nat) {x : Str} {npos : Pos} (hc : ClF X.K X.mg cns f j) (hi : X.N[i]? = some x := by rfl) (hv : Vis X.env.scope x := by first | exact Or.inl rfl | exact Or.inr (Or.inl rfl) | exact Or.inr (Or.inr rfl)) (hd : (x == ("__debug__" : Str)) = false := by decide) (hcd : (x == ("__classdict__" : Str)) = false := by decide) :
    PG X (.Attribute (.Name x npos) f pos) (gTt X.K X.mg (.at i j cns)) := by
  refine ⟨fun pins s σ H v u Q I rv h => ?_⟩
  obtain ⟨am, Hf, r, d, k, S, rd, h, hq⟩ := h
  obtain ⟨n, cn, a, hs, ha, hcn, h⟩ := slotRef_ok S h
  obtain ⟨ds, hds, hj, h⟩ := lstAt_ok h
  obtain ⟨h0, C, dx, fs, e1, hmg, hnm, hln, hr⟩ := S.insAt ha hds
  obtain ⟨c, na⟩ := hc.cl cn hcn C hmg
  have hv1 : tVar i σ H (fun w H1 => w = .ref a ∧ H1 = H) := ⟨.ref a, hs, rfl, rfl⟩
  refine PySem.W.kas_attr (thn ((pe_var (i := i) hi hv hd hcd).run pins s σ H _ I hv1) fun ov s1 ⟨w, H1, I1, rw1, ew, eH⟩ => ?_)
  subst ew eH
  obtain rfl : ov = Value.ref a := rw1
  have hl8 := flds_len cn
  refine setattr_ok I1 e1 c na (by omega) rv fun s2 I2 => ?_
  obtain ⟨p1, S1⟩ := S.wrF ha hds e1 (hc.at_ cn hcn) hj (.inl rd) fun b hvb hb hn => by
    subst hvb
    exact absurd hn (rp_ow rd (no_base I (S.tr b (mem_ow hb))))
  exact ⟨σ, _, I2, hq _ am Hf _ σ p1 S1 h⟩
/-- a, b.f, .. = e -/
def wAsgT (ts : List Tt) (we : WE) : WS := fun r p => we r (fun y r1 => frz y r1 fun d r2 => match d with
  | .tuple ds => ds.length = ts.length ∧ ttMany ts ds r2 p.nx
  | _ => False) p.ex
def wAsg1 (t : Tt) (we : WE) : WS := fun r p => we r (fun y r1 => frz y r1 fun d r2 => ttAsg t d r2 p.nx) p.ex
theorem ss_asg1 {t : Tt} {tg : Expr} (he : SE X W e we) (h : PG X tg (gTt X.K X.mg t))
    (hs : swapsWithSole [tg] e pos.line X.env = pure false := by rfl) (hw : swappedStores [tg] e X.env = pure none := by rfl) (h1 : (assignEach [tg] X.env).map (·.2) = [assign tg X.env] := by rfl) :
    SS X W (.Assign [tg] e pos) (wAsg1 t we) := by
  refine psI (ps_asg he h hs hw h1) fun Z s H hh => ?_
  obtain ⟨am, Hf, r, p, S, hw, g1, g2, g3, g4, g5⟩ := hh
  refine ⟨am, Hf, r, _, p.ex, S, hw, fun y r1 am1 Hf1 H1 v p1 S1 rr q => ?_, g5.at⟩
  obtain ⟨d, r2, Hf2, p2, S2, rd, q⟩ := frz_ok S1 rr q
  exact ⟨am1, Hf2, r2, d, _, S2, rd, q, fun r' am' Hf' H' σ' p S' q => g1 r' am' Hf' H' σ' ((p1.trans p2).trans p) S' q⟩

/-! ### a new list or dict becomes a field's own -/
def gOwn (K : PySem.W.Frag) (mg : Str → Option Value) (i j : Nat) (cns : List Str) : TG := fun v σ H Q => ∃ am Hf r b o d k, Sim K mg am Hf H σ r ∧ v = .ref b ∧ H b = some o ∧ Hf b = none ∧ b ∉ ad am ∧ OwnR K Hf o d ∧ ttAsg (.at i j cns) d r k ∧
  ∀ r' H' σ', Stp ⟨am.pl, am.ow ++ [b]⟩ Hf H ⟨am.pl, am.ow ++ [b]⟩ Hf H' → Sim K mg ⟨am.pl, am.ow ++ [b]⟩ Hf H' σ' r' → k r' → Q σ' H'
theorem sg_own (i : Nat) {x : Str} {npos : Pos} (hc : ClF X.K X.mg cns f j) (hi : X.N[i]? = some x := by rfl) (hv : Vis X.env.scope x := by first | exact Or.inl rfl | exact Or.inr (Or.inl rfl) | exact Or.inr (Or.inr rfl)) (hd : (x == ("__debug__" : Str)) = false := by decide) (hcd : (x == ("__classdict__" : Str)) = false := by decide) :
    PG X (.Attribute (.Name x npos) f pos) (gOwn X.K X.mg i j cns) := by
  refine ⟨fun pins s σ H v u Q I rv h => ?_⟩
  obtain ⟨am, Hf, r, b, o, d, k, S0, rfl, hob, hfb, hna, hown, h, hq⟩ := h
  have hb0 : H b ≠ none := by
    rw [hob]
    simp
  obtain ⟨S, no⟩ := S0.own hna hb0 hfb (no_base I hb0)
  obtain ⟨n, cn, a, hs, ha, hcn, h⟩ := slotRef_ok S h
  obtain ⟨ds, hds, hj, h⟩ := lstAt_ok h
  obtain ⟨h0, C, dx, fs, e1, hmg, hnm, hln, hr⟩ := S.insAt ha hds
  obtain ⟨c, na⟩ := hc.cl cn hcn C hmg
  have hv1 : tVar i σ H (fun w H1 => w = .ref a ∧ H1 = H) := ⟨.ref a, hs, rfl, rfl⟩
  refine PySem.W.kas_attr (thn ((pe_var (i := i) hi hv hd hcd).run pins s σ H _ I hv1) fun ov s1 ⟨w, H1, I1, rw1, ew, eH⟩ => ?_)
  subst ew eH
  obtain rfl : ov = Value.ref a := rw1
  have hl8 := flds_len cn
  refine setattr_ok I1 e1 c na (by omega) rv fun s2 I2 => ?_
  obtain ⟨p1, S1⟩ := S.wrF ha hds e1 (hc.at_ cn hcn) hj (itr_iff.mpr (.inr ⟨b, o, rfl, List.mem_append_right _ (List.mem_singleton.mpr rfl), hfb, hob, hown⟩)) fun b' hvb _ _ => by
    cases hvb
    exact no
  exact ⟨σ, _, I2, hq _ _ σ p1 S1 h⟩
def wOwnL (i j : Nat) (cns : List Str) (wl : WL) : WS := fun r p => wl r (fun ds r1 => ttAsg (.at i j cns) (ownL ds) r1 p.nx) p.ex
def wOwnK (i j : Nat) (cns : List Str) : WS := fun r p => ttAsg (.at i j cns) (ownK []) r p.nx
theorem Stp.owned {am am1 : Am} {Hf H Hf1 H1 : Hp} {b : Addr} (p : Stp am Hf H am1 Hf1 H1) (h : H b = none) : Stp am Hf H ⟨am1.pl, am1.ow ++ [b]⟩ Hf1 H1 :=
  ⟨⟨p.pre.1, fun c hc => List.mem_append_left _ (p.pre.2 c hc)⟩, fun c hc => by
    rcases List.mem_append.mp hc with hc | hc
    · exact p.nw c (List.mem_append_left _ hc)
    · rcases List.mem_append.mp hc with hc | hc
      · exact p.nw c (mem_ow hc)
      · rw [List.mem_singleton.mp hc]
        exact .inr h, p.le, p.old, p.fz, p.kp⟩
theorem ss_ownL {wl : WL} {tg : Expr} {i : Nat} (he : SL X W e wl) (h : PG X tg (gOwn X.K X.mg i j cns))
    (hs : swapsWithSole [tg] e pos.line X.env = pure false := by rfl) (hw : swappedStores [tg] e X.env = pure none := by rfl) (h1 : (assignEach [tg] X.env).map (·.2) = [assign tg X.env] := by rfl) :
    SS X W (.Assign [tg] e pos) (wOwnL i j cns wl) := by
  refine psI (ps_asg he h hs hw h1) fun Z s H hh => ?_
  obtain ⟨am, Hf, r, p, S, hw, g1, g2, g3, g4, g5⟩ := hh
  refine ⟨am, Hf, r, _, p.ex, S, hw, fun ds r1 am1 Hf1 H1 a xs p1 S1 ha hf hn h0 ra q => ?_, g5.at⟩
  exact ⟨am1, Hf1, r1, a, .lst xs, ownL ds, _, S1, rfl, ha, hf, hn, .inl ⟨xs, ds, rfl, rfl, ra⟩, q, fun r' H' σ' p S' q => g1 r' _ Hf1 H' σ' ((p1.owned h0).trans p) S' q⟩
end
end Dl

/-! the data layer, part O: items of own lists, += at fields -/
namespace Dl
open PySem
open PySem.Spec
open PyProof.Rows
open L2
open Evl (Ex)

def asL (d : D) (k : List D → Prop) : Prop := match d with
  | .dict [(.none, .list es)] => k es
  | _ => False
theorem asL_own (es : List D) (k : List D → Prop) : asL (ownL es) k = k es := rfl
def asK (d : D) (k : List (D × D) → Prop) : Prop := match d with
  | .dict [(.none, .dict es)] => k es
  | _ => False
theorem asL_ok {d : D} {k : List D → Prop} (h : asL d k) : ∃ es, d = ownL es ∧ k es := by
  unfold asL at h
  split at h
  · rename_i es
    exact ⟨es, rfl, h⟩
  · exact h.elim
/-- an int in a slot; data in a slot -/
def slotD (r : Env) (i : Nat) (k : D → Prop) : Prop := match r.sl[i]? with
  | some (some (.d d)) => k d
  | _ => False
def slotI (r : Env) (i : Nat) (k : Int → Prop) : Prop := slotD r i fun d => match d with
  | .int z => k z
  | _ => False
section
variable {K : PySem.W.Frag} {mg : Str → Option Value} {am : Am} {Hf H : Hp} {s : L2.St} {r : Env} {i j n : Nat}
theorem own_list {am : Am} {v : V} {es : List D} (h : ItR K am.ow Hf H v (ownL es)) : ∃ b xs, v = .ref b ∧ b ∈ am.ow ∧ Hf b = none ∧ H b = some (.lst xs) ∧ RpA K Hf xs es := by
  rcases itr_iff.mp h with h | ⟨b, o, h0, h1, h2, h3, ⟨xs, es', rfl, e, h4⟩ | ⟨xs, es', rfl, e, h4⟩⟩
  · have := unown_rp h
    cases this
  · unfold ownL at e
    injection e with e
    injection e with e _
    injection e with _ e
    injection e with e
    subst e
    exact ⟨b, xs, h0, h1, h2, h3, h4⟩
  · unfold ownL ownK at e
    injection e with e
    injection e with e _
    injection e with _ e
    cases e
end
/-- x.f[k] = e -/
def wSetFI (i j : Nat) (cns : List Str) (i1 : Nat) (we : WE) : WS := fun r p => we r (fun y r1 => frz y r1 fun d r2 => slotRef r2 i cns fun n _ => lstAt r2 n fun ds => fldAt ds j fun c => asL c fun cur => slotI r2 i1 fun z => match ixN cur.length z with
  | some m => p.nx (fput r2 n ds j (ownL (cur.set m d)))
  | none => False) p.ex
/-- x.f[k] op= y -/
def wAugFI (g : G2) (i j : Nat) (cns : List Str) (i1 i2 : Nat) : WS := fun r p => slotRef r i cns fun n _ => lstAt r n fun ds => fldAt ds j fun c => asL c fun cur => slotI r i1 fun z => slotD r i2 fun d2 => match ixN cur.length z with
  | some m => match cur[m]? with
    | some d1 => g d1 d2 fun d => p.nx (fput r n ds j (ownL (cur.set m d)))
    | none => False
  | none => False
section
variable {X : Cx} {W : WX} {pos fpos npos kpos vpos tpos : Pos} {e : Expr} {we : WE} {cns : List Str} {f x x1 x2 : Str} {i j i1 i2 : Nat}
end
end Dl

/-! the data layer, part P: instances made, methods called -/
namespace Dl
open PySem
open PySem.Spec
open PyProof.Rows
open L2
open Evl (Ex)

theorem make_guards {A : Around} {C : Addr} {us : List Value} {kw : List (Str × Value)} : (A.under (.builtin "type.__call__" ⟨.ref C :: us, kw⟩)).guards = A.guards := by
  first | rfl | simp [Around.under, Code.weight, Code.isCreation, Code.isGuard, Code.isCaller, Code.frames, Code.isFrame, guardIds]
/-- C(..): the new one is the last place -/
def wMake (cn : Str) (n : Nat) (G : FS) (wr : WA) : WE := fun r k x => wr r (fun ys r1 => ys.length + 1 = n ∧ G (.o (.ref r1.st.length cn) :: ys) (r1.st ++ [some []]) (fun y st' => y = .d .none ∧ k (.o (.ref r1.st.length cn)) ⟨r1.sl, st'⟩) (fun e st' => x e ⟨r1.sl, st'⟩)) x
/-- y.m(..) by the class of y -/
def wMeth (tb : List (Str × FS)) (n : Nat) (wo : WE) (wr : WA) : WE := fun r k x => wo r (fun y r1 => isRef y (tb.map (·.1)) fun i cn => lstAt r1 i fun _ => wr r1 (fun ys r2 => ys.length + 1 = n ∧ match tb.lookup cn with
  | some G => G (y :: ys) r2.st (fun z st' => k z ⟨r2.sl, st'⟩) (fun e st' => x e ⟨r2.sl, st'⟩)
  | none => False) x) x
structure MG (P : Program) (w : World) (K : PySem.W.Frag) (mg : Str → Option Value) (base : Heap) (k : Nat) (m cn : Str) (n : Nat) (G : FS) : Prop where
  ex : ∃ C, mg cn = some (.ref C) ∧ Cls K C ∧ ∃ f fd ps, Meth K C m f ∧ FnG P w K mg base k f fd ps G ∧ Binds K fd ps [] ∧ ps.length = n
  no : m ∉ flds cn
theorem lookup_mem {β : Type} {cn : Str} : ∀ {tb : List (Str × β)} {G : β}, tb.lookup cn = some G → (cn, G) ∈ tb
  | (c, g) :: t, G, h => by
    by_cases e : cn = c
    · subst e
      simp [List.lookup] at h
      subst h
      exact List.mem_cons_self
    · have hb : (cn == c) = false := beq_eq_false_iff_ne.mpr e
      simp only [List.lookup, hb] at h
      exact List.mem_cons_of_mem _ (lookup_mem h)
theorem mem_lookup {β : Type} {cn : Str} : ∀ {tb : List (Str × β)}, cn ∈ tb.map (·.1) → ∃ G, tb.lookup cn = some G
  | (c, g) :: t, h => by
    by_cases e : cn = c
    · subst e
      exact ⟨g, by simp [List.lookup]⟩
    · have hb : (cn == c) = false := beq_eq_false_iff_ne.mpr e
      simp only [List.lookup, hb]
      refine mem_lookup ?_
      simp only [List.map_cons, List.mem_cons] at h
      exact h.resolve_left e
theorem paired_mono {α β : Type} {F F' : α → β → Prop} (h : ∀ a b, F a b → F' a b) {xs : List α} {ys : List β} (r : Paired F xs ys) : Paired F' xs ys := by
  induction r with
  | nil => exact .nil
  | cons a _ ih => exact .cons (h _ _ a) ih
def AftE (X : Cx) (am : Am) (Hf H : Hp) (σ : L2.St) (k : KE) : VK := fun v H1 => ∃ y r1 am1 Hf1, Stp am Hf H am1 Hf1 H1 ∧ Sim X.K X.mg am1 Hf1 H1 σ r1 ∧ RelR X.K X.mg am1 Hf1 v y ∧ k y r1
theorem aftE {X : Cx} {W : WX} {am : Am} {Hf H : Hp} {σ : L2.St} {r : Env} {k : KE} {x : XQ} {w : WE} (S : Sim X.K X.mg am Hf H σ r) (hw : w r k x) (hx : XC X.K X.mg W x am Hf H σ) : tE X.K X.mg W w σ H (AftE X am Hf H σ k) :=
  ⟨am, Hf, r, k, x, S, hw, fun y r1 am1 Hf1 H1 v p1 S1 rr q => ⟨y, r1, am1, Hf1, p1, S1, rr, q⟩, hx⟩
section
variable {X : Cx} {W : WX} {k : Nat} {f C : Addr} {fd : FuncData} {ps : List Str} {G : FS} {x m : Str} {p pos apos : Pos} {e o : Expr} {es : List Expr} {wo we : WE} {wr : WA}
theorem se_make (M : Mk X.K C f) (F : FnG X.prog X.w X.K X.mg X.base k f fd ps G) (hr : Room (k + 1) X.A) (hgd : X.A.guards = some []) (tk : L2N.Takes X W) (hm : X.mg x = some (.ref C)) (hb : Binds X.K fd ps []) (ha : SA X W (e :: es) wr) (hg : Gl X x := by rfl)
    (hdb : (x == ("__debug__" : Str)) = false := by decide) (he : starEach (e :: es) X.env = (false, eval e X.env) :: starEach es X.env := by rfl) (hpl : (backTo pos (starEach es X.env)).any (·.1) = false := by rfl) :
    SE X W (.Call (.Name x p) (e :: es) [] pos) (wMake x ps.length G wr) := by
  refine ⟨fun pins s σ H Q I h => ?_⟩
  obtain ⟨am, Hf, r, kk, xx, S, hw, hk, hx⟩ := h
  refine wpAny_Call_Name_kw (ld_glob I hg hm ?_ hdb)
  refine PySem.W.callWith_K (h₀ := X.base) I.ok.mod.kin M.kp (thn (ha.run pos pins s σ H (fun vs H1 => ∃ ys r1 am1 Hf1, Stp am Hf H am1 Hf1 H1 ∧ Sim X.K X.mg am1 Hf1 H1 σ r1 ∧ Paired (RelR X.K X.mg am1 Hf1) vs ys ∧ ys.length + 1 = ps.length ∧
      G (.o (.ref r1.st.length x) :: ys) (r1.st ++ [some []]) (fun y st' => y = .d .none ∧ kk (.o (.ref r1.st.length x)) ⟨r1.sl, st'⟩) (fun e st' => xx e ⟨r1.sl, st'⟩)) I
    ⟨am, Hf, r, _, xx, S, hw, fun ys r1 am1 Hf1 H1 vs p1 S1 rs q => ⟨ys, r1, am1, Hf1, p1, S1, rs, q⟩, hx⟩) fun us s1 ⟨vs, H1, I1, rv, ys, r1, am1, Hf1, p1, S1, rs, hl, q⟩ => ⟨I1.kIn, ?_⟩) he hpl
  have I2 := Inv.made (C := C) I1
  have ne : s1.heap.objs.size ≠ s1.heap.objs.size + 1 := Nat.ne_of_lt (Nat.lt_succ_self _)
  obtain ⟨p2, S2, hat⟩ := S1.addIns (I1.hok.fresh (Nat.le_succ _)) (I1.hok.fresh (Nat.le_refl _)) ne hm
  have hl2 : ((Value.ref (s1.heap.objs.size + 1) :: us) ++ []).length = ps.length := by
    rw [List.append_nil, List.length_cons, ← rv.length, pairLen rs]
    exact hl
  have hbb := hb _ (Value.ref (s1.heap.objs.size + 1) :: us) I2.kIn hl2
  rw [List.append_nil] at hbb
  refine wpAny_call (make_map (f := f) I1.kIn M.makes M.init (beq_iff_eq.mp M.fn) (codeAny_mono (F.run _ X.stack _ _ ⟨Value.ref (s1.heap.objs.size + 1) :: us, []⟩ (Value.ref (s1.heap.objs.size + 1) :: us) (V.ref (s1.heap.objs.size + 1) :: vs)
    (fun v H2 => v = .non ∧ Q (.ref (s1.heap.objs.size + 1)) H2) (fun C d H' => W C d σ H') (hr.make C us []) (make_guards.trans hgd) (I2.env0.make C us []) hbb (.cons rfl rv)
    ⟨_, _, _, _, _, _, S2.noslots, .cons (show RelR X.K X.mg _ Hf1 (V.ref (s1.heap.objs.size + 1)) (.o (.ref r1.st.length x)) from ⟨_, rfl, hat⟩) (paired_mono (fun _ _ q => q.mono p2) rs), by rw [List.length_cons]; exact hl, q, fun y st' am' Hf' H' v p S' rr q => ?_, fun e st' am' Hf' H' C d p S' er q => hx e _ am' Hf' H' σ C d (p1.trans (p2.trans p)) (S2.reslot p S') rfl er q⟩) fun rr s' hq => ?_))
  · obtain ⟨rfl, q⟩ := q
    cases rr
    exact ⟨rfl, hk _ _ am' Hf' H' _ (p1.trans (p2.trans p)) (S2.reslot p S') (show RelR X.K X.mg am' Hf' _ (.o (.ref r1.st.length x)) from ⟨_, rfl, p.at hat⟩) q⟩
  · cases rr with
    | error e => exact L2N.passAt tk σ pins _ _ e s' I2 hq
    | ok fl =>
      cases fl with
      | ret u =>
        obtain ⟨v, H', I3, rv, ev, q3⟩ := I2.after hq
        subst ev
        exact ⟨rv, ⟨V.ref (s1.heap.objs.size + 1), H', I3, rfl, q3⟩⟩
      | next => exact False.elim hq
      | brk => exact False.elim hq
      | cont => exact False.elim hq
theorem se_meth {tb : List (Str × FS)} {n : Nat} {pl : Sem Bool} (hM : ∀ p ∈ tb, MG X.prog X.w X.K X.mg X.base k m p.1 n p.2) (hr : Room k X.A) (hgd : X.A.guards = some []) (tk : L2N.Takes X W) (ho : SE X W o wo) (ha : SA X W (e :: es) wr)
    (hst : starEach (e :: es) X.env = (false, eval e X.env) :: starEach es X.env := by rfl) (hpl : (backTo pos (starEach es X.env)).any (·.1) = false := by rfl)
    (ht : eval (.Call (.Attribute o m apos) (e :: es) [] pos) X.env = (do
      let ov ← eval o X.env
      standAt apos.atName
      let (f, first) ← holding [ov] (getMethod ov m pl)
      callWith pos f first (backTo pos (starEach (e :: es) X.env)) (backToKw pos (keywordEach [] X.env))) := by rfl) :
    SE X W (.Call (.Attribute o m apos) (e :: es) [] pos) (wMeth tb n wo wr) := by
  refine ⟨fun pins s σ H Q I h => ?_⟩
  obtain ⟨am, Hf, r, kk, xx, S, hw, hk, hx⟩ := h
  refine PySem.W.methodCall_KW (pl := pl) (thn (ho.run pins s σ H _ I (aftE S hw hx)) fun u s1 ⟨v, H1, I1, rv1, y, r1, am1, Hf1, p1, S1, rr, q⟩ => ?_) ht
  obtain ⟨i, cn, a, rfl, rfl, ha1, hcn, q⟩ := isRef_ok rr q
  obtain ⟨ds, hds, q⟩ := lstAt_ok q
  obtain rfl : u = Value.ref a := rv1
  obtain ⟨G, hG⟩ := mem_lookup hcn
  have hMG := hM _ (lookup_mem hG)
  obtain ⟨C, hmg, hcl, f, fd, ps, hme, F, hb, hn⟩ := hMG.ex
  obtain ⟨h0, C1, dx, fs, e1, hmg1, hnm, _, _⟩ := S1.insAt ha1 hds
  rw [hmg] at hmg1
  cases hmg1
  have hlk : fs.lookup m = none := lookup_no fun z => hMG.no (by
    rw [hnm] at z
    exact List.mem_of_mem_take z)
  refine getmeth_ok I1 e1 hcl hme hlk ?_
  refine PySem.W.callWith_K (first := [.ref a]) (h₀ := X.base) I.ok.mod.kin hme.kp (thn (ha.run pos pins s1 σ H1 (fun vs H2 => ∃ ys r2 am2 Hf2, Stp am1 Hf1 H1 am2 Hf2 H2 ∧ Sim X.K X.mg am2 Hf2 H2 σ r2 ∧ Paired (RelR X.K X.mg am2 Hf2) vs ys ∧ ys.length + 1 = n ∧
      G (.o (.ref i cn) :: ys) r2.st (fun z st' => kk z ⟨r2.sl, st'⟩) (fun e st' => xx e ⟨r2.sl, st'⟩)) I1
    ⟨am1, Hf1, r1, _, xx, S1, q, fun ys r2 am2 Hf2 H2 vs p2 S2 rs q => ?_, hx.next p1⟩) fun us s2 ⟨vs, H2, I2, rv, ys, r2, am2, Hf2, p2, S2, rs, hl, q⟩ => ⟨I2.kIn, ?_⟩) hst hpl
  · refine ⟨ys, r2, am2, Hf2, p2, S2, rs, q.1, ?_⟩
    have q := q.2
    rw [hG] at q
    exact q
  have hlu : ((Value.ref a :: us) ++ []).length = ps.length := by
    rw [List.append_nil, List.length_cons, ← rv.length, pairLen rs, hn]
    exact hl
  have hbb := hb s2 (.ref a :: us) I2.kIn hlu
  rw [List.append_nil] at hbb
  refine wpAny_call (codeAny_mono (run_G F hr hgd tk I2 S2 (.cons (show RelV (V.ref a) (Value.ref a) from rfl) rv) (.cons (show RelR X.K X.mg am2 Hf2 _ (.o (.ref i cn)) from ⟨a, rfl, p2.at ha1⟩) rs) hbb (by rw [List.length_cons, hn]; exact hl) q (fun y r' am' Hf' H' v p S' rr q => hk y r' am' Hf' H' v (p1.trans (p2.trans p)) S' rr q) (hx.next (p1.trans p2))) fun rr s' hq => ?_)
  cases rr with
  | error e => exact hq
  | ok fl =>
    cases fl with
    | ret u => exact hq
    | next => exact False.elim hq
    | brk => exact False.elim hq
    | cont => exact False.elim hq
end
/-- a method of a class by name; how a class is made -/
def MeF (K : PySem.W.Frag) (mg : Str → Option Value) (cn m : Str) (f : Addr) : Prop := ∃ C, mg cn = some (.ref C) ∧ Cls K C ∧ Meth K C m f
def MkF (K : PySem.W.Frag) (mg : Str → Option Value) (cn : Str) (f : Addr) : Prop := ∃ C, mg cn = some (.ref C) ∧ Mk K C f
theorem mg_of {P : Program} {w : World} {K : PySem.W.Frag} {mg : Str → Option Value} {base : Heap} {k : Nat} {m cn : Str} {f : Addr} {fd : FuncData} {ps : List Str} {G : FS} {n : Nat} (h : MeF K mg cn m f) (F : FnG P w K mg base k f fd ps G) (hb : Binds K fd ps []) (hn : m ∉ flds cn) (hl : ps.length = n := by rfl) : MG P w K mg base k m cn n G := by
  subst hl
  obtain ⟨C, h1, h2, h3⟩ := h
  exact ⟨⟨C, h1, h2, f, fd, ps, h3, F, hb, rfl⟩, hn⟩
theorem mgs_nil {P : Program} {w : World} {K : PySem.W.Frag} {mg : Str → Option Value} {base : Heap} {k : Nat} {m : Str} {n : Nat} : ∀ p ∈ ([] : List (Str × FS)), MG P w K mg base k m p.1 n p.2 := fun _ h => by cases h
theorem mgs_cons {P : Program} {w : World} {K : PySem.W.Frag} {mg : Str → Option Value} {base : Heap} {k : Nat} {m cn : Str} {n : Nat} {G : FS} {tb : List (Str × FS)} (h : MG P w K mg base k m cn n G) (hr : ∀ p ∈ tb, MG P w K mg base k m p.1 n p.2) : ∀ p ∈ (cn, G) :: tb, MG P w K mg base k m p.1 n p.2 := fun p hp => by
  rcases List.mem_cons.mp hp with rfl | hp
  · exact h
  · exact hr p hp
theorem clf_nil {K : PySem.W.Frag} {mg : Str → Option Value} {f : Str} {j : Nat} : ClF K mg [] f j := { at_ := fun _ h => absurd h (by simp), cl := fun _ h => absurd h (by simp) }
theorem clf_cons {K : PySem.W.Frag} {mg : Str → Option Value} {cn f : Str} {j : Nat} {C : Addr} {cns : List Str} (hm : mg cn = some (.ref C)) (hj : (flds cn)[j]? = some f) (c : Cls K C) (n : NoAttr K C f) (h : ClF K mg cns f j) : ClF K mg (cn :: cns) f j := by
  refine ⟨fun x hx => ?_, fun x hx C' hC => ?_⟩
  · rcases List.mem_cons.mp hx with rfl | hx
    · exact hj
    · exact h.at_ x hx
  · rcases List.mem_cons.mp hx with rfl | hx
    · rw [hm] at hC
      cases hC
      exact ⟨c, n⟩
    · exact h.cl x hx C' hC
section
variable {X : Cx} {W : WX} {k : Nat} {f : Addr} {fd : FuncData} {ps : List Str} {G : FS} {x : Str} {p pos : Pos} {e : Expr} {es : List Expr} {wr : WA}
theorem sc_make {n : Nat} (M : MkF X.K X.mg x f) (F : FnG X.prog X.w X.K X.mg X.base k f fd ps G) (hr : Room (k + 1) X.A) (hgd : X.A.guards = some []) (tk : L2N.Takes X W) (hb : Binds X.K fd ps []) (ha : SA X W (e :: es) wr) (hn : ps.length = n := by rfl) (hg : Gl X x := by rfl)
    (hdb : (x == ("__debug__" : Str)) = false := by decide) (he : starEach (e :: es) X.env = (false, eval e X.env) :: starEach es X.env := by rfl) (hpl : (backTo pos (starEach es X.env)).any (·.1) = false := by rfl) :
    SE X W (.Call (.Name x p) (e :: es) [] pos) (wMake x n G wr) := by
  subst hn
  obtain ⟨C, h1, h2⟩ := M
  exact se_make h2 F hr hgd tk h1 hb ha hg hdb he hpl
end
end Dl

/-! the data layer, part Q: enumerate of a tuple -/
namespace PySem
open PySem PyProof.Rows
theorem meets_enumerate_new1 {v : Value} {o : Obj} {H : Heap → Prop} (B : Begins v o H) :
    Meets (Builtin.«enumerate.__new__» ⟨[.type "enumerate", v], []⟩) (fun _ R s => H s.heap ∧
      R (.ok (.ret (.ref (s.heap.push o).objs.size))) { s with heap := (s.heap.push o).push { cls := .type "enumerate", data := .fields #[.none, .bool false, .ref s.heap.objs.size, rawInt 0, .none, .none] } }) :=
  .of_wp fun prog w A R s h => by
    obtain ⟨hp, g, d, tk, os⟩ := s; obtain ⟨h1, h⟩ := h
    have hsub := sub_enumerate
    have q1 : ∀ {A' : Around} {E : Value → Shared → Prop} {Q : Value → Shared → Prop}, Q (.ref hp.objs.size) ⟨hp.push o, g, d, tk, os⟩ → wpAny (model prog w) A' (pyIter v) Q E ⟨hp, g, d, tk, os⟩ :=
      fun q => B.iter prog w _ _ ⟨hp, g, d, tk, os⟩ _ h1 q
    wp_walk using q1
    refine wpAny_stack_any fun st => wpAny_pure ?_
    split
    · rename_i c _ _ _ _ _
      cases (c == Value.type "enumerate")
      · wp_walk using q1
        exact ⟨_, rfl, h⟩
      · wp_walk using q1
        exact ⟨_, rfl, h⟩
    · wp_walk using q1
      exact ⟨_, rfl, h⟩
theorem enum_begins1 {prog : Program} {w : World} {A : Around} {E : Value → Shared → Prop} {s : Shared} {v : Value} {o : Obj} {H : Heap → Prop} {Q : Value → Shared → Prop} (B : Begins v o H) (h1 : H s.heap)
    (h : ∀ h', IsEnum h' (s.heap.objs.size + 1) s.heap.objs.size 0 .none → h'.get? s.heap.objs.size = some o → h'.objs.size = s.heap.objs.size + 2 →
      (∀ b o, s.heap.get? b = some o → h'.get? b = some o) → Q (.ref (s.heap.objs.size + 1)) { s with heap := h' }) :
    wpAny (model prog w) A (call (.type "enumerate") [v]) Q E s := by
  refine callType_new F.called_enumerate (by decide) (F.typeCall_enumerate_1 _) (F.newCall_enumerate_1 _) (fun obj => F.args_object_init_2 obj _) F.entry_enumerate_new
    (meets_enumerate_new1 B) ⟨h1, ?_⟩
  have hz : (s.heap.push o).objs.size = s.heap.objs.size + 1 := Heap.size_push ..
  show _ ∧ _
  rw [hz]
  have he : IsEnum ((s.heap.push o).push { cls := .type "enumerate", data := .fields #[.none, .bool false, .ref s.heap.objs.size, rawInt 0, .none, .none] }) (s.heap.objs.size + 1) s.heap.objs.size 0 .none := by
    have := Heap.get?_push_size (s.heap.push o) (o := { cls := .type "enumerate", data := .fields #[.none, .bool false, .ref s.heap.objs.size, rawInt 0, .none, .none] }) rfl
    rw [hz] at this; exact this
  refine ⟨⟨_, he, rfl⟩, h _ he (Heap.get?_push_of_some _ (Heap.get?_push_size _ B.free)) (by rw [Heap.size_push, hz]) fun b o x => Heap.get?_push_of_some _ (Heap.get?_push_of_some _ x)⟩
end PySem
namespace Dl
open PySem
open PySem.Spec
open PyProof.Rows
open L2
open Evl (Ex)
def wEnumT (wr : WA) : WI := fun r k x => wr r (fun ys r1 => frzs ys r1 fun ds r2 => match ds with
  | [.tuple a] => k (pairs (intR 0 a.length) a) r2
  | _ => False) x
end Dl

/-! the data layer, part R: own operators, properties -/
namespace PySem.W
open PySem PySem.Calls PyProof.Rows
end PySem.W
namespace Dl
open PySem
open PySem.Spec
open PyProof.Rows
open L2
open Evl (Ex)
def wOwnOp (cn : Str) (G : FS) (wo wb : WE) : WE := fun r k x => wo r (fun y r1 => isRef y [cn] fun n _ => wb r1 (fun z r2 => isI z fun _ => lstAt r2 n fun _ => G [y, z] r2.st (fun v st' => k v ⟨r2.sl, st'⟩) (fun e st' => x e ⟨r2.sl, st'⟩)) x) x
def wProp (tb : List (Str × FS)) (wo : WE) : WE := fun r k x => wo r (fun y r1 => isRef y (tb.map (·.1)) fun i cn => lstAt r1 i fun _ => match tb.lookup cn with
  | some G => G [y] r1.st (fun z st' => k z ⟨r1.sl, st'⟩) (fun _ _ => False)
  | none => False) x
structure PrG (P : Program) (w : World) (K : PySem.W.Frag) (mg : Str → Option Value) (base : Heap) (k : Nat) (m cn : Str) (G : FS) : Prop where
  ex : ∃ C, mg cn = some (.ref C) ∧ Cls K C ∧ ∃ p f fd ps, PropOf K C m p f ∧ FnG P w K mg base k f fd ps G ∧ Binds K fd ps [] ∧ ps.length = 1
section
variable {X : Cx} {W : WX} {k : Nat} {f : Addr} {fd : FuncData} {ps : List Str} {G : FS} {cn m : Str} {p pos apos : Pos} {a b o : Expr} {wo wb : WE} {op : Operator}
theorem se_prop {tb : List (Str × FS)} (hM : ∀ p ∈ tb, PrG X.prog X.w X.K X.mg X.base k m p.1 p.2) (hr : Room (k + 1) X.A) (hgd : X.A.guards = some []) (ho : SE X W o wo)
    (hab : attributeBase o m X.env (eval o X.env) = eval o X.env := by rfl) : SE X W (.Attribute o m pos) (wProp tb wo) := by
  refine ⟨fun pins s σ H Q I h => ?_⟩
  obtain ⟨am, Hf, r, kk, xx, S, hw, hk, hx⟩ := h
  refine attr_of hab (thn (ho.run pins s σ H _ I (aftE S hw hx)) fun u s1 ⟨v, H1, I1, rv1, y, r1, am1, Hf1, p1, S1, rr, q⟩ => ?_)
  obtain ⟨i, cn, a, rfl, rfl, ha1, hcn, q⟩ := isRef_ok rr q
  obtain ⟨ds, hds, q⟩ := lstAt_ok q
  obtain rfl : u = Value.ref a := rv1
  obtain ⟨G, hG⟩ := mem_lookup hcn
  rw [hG] at q
  obtain ⟨C, hmg, hcl, pp, f, fd, ps, hp, F, hb, hn⟩ := (hM _ (lookup_mem hG)).ex
  obtain ⟨h0, C1, dx, fs, e1, hmg1, _, _, _⟩ := S1.insAt ha1 hds
  rw [hmg] at hmg1
  cases hmg1
  obtain ⟨mA, O, _, _, _, _⟩ := ins_get I1.hok e1
  obtain ⟨od, J, _⟩ := O.look
  obtain ⟨rest, hrec⟩ := hp.rec_
  have I2 := I1.tok (s1.toks + 1)
  have hc : (PySem.W.clsIn X.K C).isSome = true := by
    obtain ⟨cd, hc, _⟩ := PySem.W.any_some hcl.hd
    rw [hc]
    rfl
  have hbd := hb { s1 with toks := s1.toks + 1 } [.ref a] I2.kIn (by rw [hn]; rfl)
  rw [List.append_nil] at hbd
  refine PySem.W.get_bind I1.kIn J (PySem.W.plainGet_of (hcl.get m)).1 (PySem.W.findObj_data hc hp.at_ hp.get hp.tak) (PySem.W.plainGet_of (hcl.get m)).2 (wpAny_call (PySem.W.prop_get (s := { s1 with toks := s1.toks + 1 }) I1.kIn hrec ?_))
  refine codeAny_mono (F.run X.A.in1 X.stack { s1 with toks := s1.toks + 1 } H1 ⟨[.ref a], []⟩ [.ref a] [.ref a] Q (fun _ _ _ => False) hr.in1 hgd I2.env0.in1 hbd (.cons rfl .nil)
    ⟨am1, Hf1, r1.st, [.o (.ref i cn)], _, _, S1.noslots, .cons (show RelR X.K X.mg am1 Hf1 _ (.o (.ref i cn)) from ⟨a, rfl, ha1⟩) .nil, by rw [hn]; rfl, q, fun y st' am' Hf' H' v p S' rr q => hk y _ am' Hf' H' v (p1.trans p) (S1.reslot p S') rr q, fun e st' am' Hf' H' C d p S' er q => q.elim⟩) fun r s' hq => ?_
  cases r with
  | error er =>
    obtain ⟨a', B, H', cls, d, _, _, _, _, _, _, _, he⟩ := hq
    exact he.elim
  | ok fl =>
    cases fl with
    | ret u =>
      obtain ⟨v, H', I3, rv, q3⟩ := I2.after hq
      show wpAny _ _ (handedOut u) _ _ _
      rw [PySem.W.handedOut_of (handed_of rv)]
      exact wpAny_pure ⟨v, H', I3, rv, q3⟩
    | next => exact False.elim hq
    | brk => exact False.elim hq
    | cont => exact False.elim hq
end
def PpF (K : PySem.W.Frag) (mg : Str → Option Value) (cn m : Str) (f : Addr) : Prop := ∃ C, mg cn = some (.ref C) ∧ Cls K C ∧ ∃ p, PropOf K C m p f
theorem pr_of {P : Program} {w : World} {K : PySem.W.Frag} {mg : Str → Option Value} {base : Heap} {k : Nat} {m cn : Str} {f : Addr} {fd : FuncData} {ps : List Str} {G : FS} (h : PpF K mg cn m f) (F : FnG P w K mg base k f fd ps G) (hb : Binds K fd ps []) (hl : ps.length = 1 := by rfl) : PrG P w K mg base k m cn G := by
  obtain ⟨C, h1, h2, p, h3⟩ := h
  exact ⟨⟨C, h1, h2, p, f, fd, ps, h3, F, hb, hl⟩⟩
theorem prs_nil {P : Program} {w : World} {K : PySem.W.Frag} {mg : Str → Option Value} {base : Heap} {k : Nat} {m : Str} : ∀ p ∈ ([] : List (Str × FS)), PrG P w K mg base k m p.1 p.2 := fun _ h => by cases h
theorem prs_cons {P : Program} {w : World} {K : PySem.W.Frag} {mg : Str → Option Value} {base : Heap} {k : Nat} {m cn : Str} {G : FS} {tb : List (Str × FS)} (h : PrG P w K mg base k m cn G) (hr : ∀ p ∈ tb, PrG P w K mg base k m p.1 p.2) : ∀ p ∈ (cn, G) :: tb, PrG P w K mg base k m p.1 p.2 := fun p hp => by
  rcases List.mem_cons.mp hp with rfl | hp
  · exact h
  · exact hr p hp
end Dl

/-! the data layer, part S: (a, b), (c, d) = e -/
namespace Dl
open PySem
open PySem.Spec
open PyProof.Rows
open L2
open Evl (Ex)
def wNest2 (is1 is2 : List Nat) (we : WE) : WS := fun r p => we r (fun y r1 => frz y r1 fun d r2 => match d with
  | .tuple [a, b] => asgT (.tp is1) a r2 fun r3 => asgT (.tp is2) b r3 p.nx
  | _ => False) p.ex
section
variable {X : Cx} {W : WX} {e t1 t2 : Expr} {we : WE} {pos tpos : Pos} {is1 is2 : List Nat} {k : Nat}
end
end Dl

/-! the data layer, part T: dicts of fields -/
namespace Dl
open PySem
open PySem.Spec
open PyProof.Rows
open L2
open Evl (Ex)
/-- two keys -/
def isK : D → D → Bool
  | .int a, .int b => decide (a = b)
  | .str a, .str b => decide (a = b)
  | _, _ => false
def isKey : D → Prop
  | .int _ => True
  | .str _ => True
  | _ => False
def valD (es : List (D × D)) (k : D) : Option D := (es.find? fun e => isK e.1 k).map (·.2)
def putD (es : List (D × D)) (k v : D) : List (D × D) := if (es.any fun e => isK e.1 k) = true then es.map (fun e => if isK e.1 k = true then (e.1, v) else e) else es ++ [(k, v)]
theorem isK_kD (a b : Key) : isK (kD a) (kD b) = decide (a = b) := by
  cases a <;> cases b <;> simp [kD, isK]
section
variable {K : PySem.W.Frag} {H : Hp}
theorem RpK.length : ∀ {kvs : List (Key × V)} {es : List (D × D)}, RpK K H kvs es → kvs.length = es.length
  | _, _, .nil => rfl
  | _, _, .cons _ r => by simp [r.length]
theorem RpK.any (k : Key) : ∀ {kvs : List (Key × V)} {es : List (D × D)}, RpK K H kvs es → (kvs.any fun kv => decide (kv.1 = k)) = es.any fun e => isK e.1 (kD k)
  | _, _, .nil => rfl
  | _, _, .cons _ r => by simp only [List.any_cons, isK_kD, r.any k]
theorem RpK.repl (k : Key) {v : V} {d : D} (h : Rp K H v d) : ∀ {kvs : List (Key × V)} {es : List (D × D)}, RpK K H kvs es →
    RpK K H (kvs.map fun kv => if kv.1 = k then (kv.1, v) else kv) (es.map fun e => if isK e.1 (kD k) = true then (e.1, d) else e)
  | _, _, .nil => .nil
  | _, _, .cons (k := j) h' r => by
    simp only [List.map_cons, isK_kD, decide_eq_true_eq]
    by_cases e : j = k
    · simp only [e, if_true]
      exact .cons h (r.repl k h)
    · simp only [e, if_false]
      exact .cons h' (r.repl k h)
theorem RpK.snoc (k : Key) {v : V} {d : D} (h : Rp K H v d) : ∀ {kvs : List (Key × V)} {es : List (D × D)}, RpK K H kvs es → RpK K H (kvs ++ [(k, v)]) (es ++ [(kD k, d)])
  | _, _, .nil => .cons h .nil
  | _, _, .cons h' r => .cons h' (r.snoc k h)
theorem RpK.put (k : Key) {v : V} {d : D} (h : Rp K H v d) {kvs : List (Key × V)} {es : List (D × D)} (r : RpK K H kvs es) : RpK K H (putK kvs k v) (putD es (kD k) d) := by
  unfold putK putD
  rw [r.any k]
  split
  · exact r.repl k h
  · exact r.snoc k h
end
/-- x.f[k] = e, the field an own dict -/
def wSetFK (i j : Nat) (cns : List Str) (i1 : Nat) (we : WE) : WS := fun r p => we r (fun y r1 => frz y r1 fun d r2 => slotRef r2 i cns fun n _ => lstAt r2 n fun ds => fldAt ds j fun c => asK c fun cur => slotD r2 i1 fun kd => isKey kd ∧ cur.length < sizeLine ∧ p.nx (fput r2 n ds j (ownK (putD cur kd d)))) p.ex
section
variable {X : Cx} {W : WX} {pos fpos npos kpos vpos tpos : Pos} {e : Expr} {we : WE} {cns : List Str} {f x x1 x2 : Str} {i j i1 i2 : Nat}
end
/-- k not in x.f, the field an own dict -/
def wNotInF (i1 i j : Nat) (cns : List Str) : WT := fun r k _ => slotD r i1 fun kd => slotRef r i cns fun n _ => lstAt r n fun ds => fldAt ds j fun c => asK c fun cur => isKey kd ∧ k (!(valD cur kd).isSome) r
section
variable {X : Cx} {W : WX} {pos fpos npos kpos vpos tpos : Pos} {cns : List Str} {f x x1 : Str} {i j i1 : Nat}
end
/-- d.get(k), d frozen -/
def isDic (y : R) (k : List (D × D) → Prop) : Prop := match y with
  | .d (.dict es) => k es
  | _ => False
def isKeyR (y : R) (k : D → Prop) : Prop := match y with
  | .d d => isKey d ∧ k d
  | _ => False
def wGetK (we wk : WE) : WE := fun r k x => we r (fun o r1 => isDic o fun es => wk r1 (fun y r2 => isKeyR y fun kd => k (.d ((valD es kd).getD .none)) r2) x) x
section
variable {X : Cx} {W : WX} {o e : Expr} {apos pos : Pos} {we wk : WE}
end
end Dl

/-! the data layer, part U: defs with a star parameter -/
namespace Dl
open PySem
open PySem.Spec
open PyProof.Rows
open L2
theorem cxUpN {P : Program} {w : World} : StX.CXUp (L2N.CX P w) := by
  rintro outer s H s2 H2 E e s' un kp ho ⟨a, B, H', cls, d, ea, fl, hok, ub, na, os, ag, he⟩
  have f := fun b o q n => un.free b o q n (by simp)
  refine ⟨a, B, H', cls, d, ea, fl, hok, ⟨fun b o q n hb => ub.keep b o (kp b o q) (f b o q n) hb, fun b o q hb => ub.slot b o (kp b o q) hb, fun b o q n => ub.free b o (kp b o q) (f b o q n),
    fun b o q hb => ub.there b o (kp b o q) hb, fun b xs q => ub.tups b xs (un.tups b xs q), fun b o xs q => ub.frzs b o xs (un.frzs b o xs q), fun b ps q => ?_⟩, na, os.trans ho, ag, he⟩
  obtain ⟨m1, e1⟩ := un.tbls b ps q
  obtain ⟨m2, e2⟩ := ub.tbls b _ e1
  exact ⟨m1 ++ m2, by rw [e2, Array.append_assoc]⟩
open Evl (Ex)
/-- how a call of a def with a star parameter binds -/
def BV (fd : FuncData) (ps : List Str) (pv : Str) (args : Args) (us rest : List Value) : Prop := us.length = ps.length ∧ bindArgs fd args = (newTuple rest >>= fun t => pure (ps.zip us ++ [(pv, t)]))
def spV (K : PySem.W.Frag) (mg : Str → Option Value) (n : Nat) (G : FS) (ws rs : List V) (H : Hp) (Q : VK) (E : XK) : Prop := ∃ am Hf st ys ds k x, Sim K mg am Hf H [] ⟨[], st⟩ ∧ Paired (RelR K mg am Hf) ws ys ∧ RpA K Hf rs ds ∧ ys.length = n ∧ rs.length ≤ sizeLine ∧ G (ys ++ [.d (.tuple ds)]) st k x ∧
  (∀ y st' am' Hf' H' v, Stp am Hf H am' Hf' H' → Sim K mg am' Hf' H' [] ⟨[], st'⟩ → RelR K mg am' Hf' v y → k y st' → Q v H') ∧
  (∀ e st' am' Hf' H' C d, Stp am Hf H am' Hf' H' → Sim K mg am' Hf' H' [] ⟨[], st'⟩ → ExR K mg Hf' e C d → x e st' → E C d H')
structure FnGV (P : Program) (w : World) (K : PySem.W.Frag) (mg : Str → Option Value) (base : Heap) (k : Nat) (f : Addr) (fd : FuncData) (ps : List Str) (pv : Str) (G : FS) : Prop where
  run : ∀ (A : Around) (outer : List PySem.Env) (s : Shared) (H : Hp) (args : Args) (us rest : List Value) (ws rs : List V) (Q : VK) (E : XK), Room k A → A.guards = some [] → Env0 P w K mg base A outer s H → BV fd ps pv args us rest → Vals ws us → Vals rs rest →
    spV K mg ps.length G ws rs H Q E → codeAny (model P w) A (.call (.ref f) args) (CR (L2N.CX P w) outer P w H s Q E) s
theorem pair_app {α β : Type} {F : α → β → Prop} {a c : List α} {b d : List β} (h : Paired F a b) (q : Paired F c d) : Paired F (a ++ c) (b ++ d) := by
  induction h with
  | nil => exact q
  | cons h t ih => exact .cons h ih
section
variable {P : Program} {w : World} {K : PySem.W.Frag} {mg : Str → Option Value} {base : Heap}
theorem fnGV_of {x qual : Str} {st : Stmt} {f : Addr} {fd : FuncData} {N ps : List Str} {pv : Str} {k : Nat} {ws : WS} (F : Fun K x qual st f fd) (S : FnScope N (ps ++ [pv]) (defScope st))
    (hbody : ∀ (cdv : Value) (A : Around) (outer : List PySem.Env) (s : Shared) (H : Hp) (E : XK), Room k (A.deeper (envOfC qual (defScope st) s.heap.objs.size f cdv)) → A.guards = some [] →
      SB (cxOf (L2N.CX P w) P w K mg base N qual (defScope st) f cdv A outer s H E) (fun C d _ H => E C d H) (defBody st) ws) : FnGV P w K mg base (k + 1) f fd ps pv (runF N.length ws) := by
  obtain ⟨oc, od, kV, doc, pm, an, cdv, ct, osl, rfl, lk, hcd⟩ := F.ex
  refine ⟨fun A outer s H args us rest wsV rsV Q E hr hgd e0 hb rv rr hsp => ?_⟩
  obtain ⟨am, Hf, st0, ys, ds, kk, xx, S0, rs, ra, hlen, hsz, hG, hk, hx⟩ := hsp
  have hlw : wsV.length = ps.length := (pairLen rs).trans hlen
  refine StX.run_bnd (G := fun vs H2 => ∃ p, H p = none ∧ vs = wsV ++ [V.ref p] ∧ H2 = upd H p (.tup rsV)) lk hcd S hr e0 (fun A' Ex Q' h => ?_) fun s2 H2 vs hg hr2 => ?_
  · rw [hb.2]
    have hp : H s.heap.objs.size = none := e0.hok.fresh (Nat.le_refl _)
    refine wpAny_bind (wpAny_newTuple (wpAny_pure ?_) (by rw [← rr.length]; exact hsz))
    have ez : (ps ++ [pv]).zip (us ++ [Value.ref s.heap.objs.size]) = ps.zip us ++ [(pv, Value.ref s.heap.objs.size)] := by
      rw [List.zip_append hb.1.symm]
      rfl
    rw [← ez]
    have hget : (s.heap.push { cls := .type "tuple", data := .seq rest.toArray }).get? s.heap.objs.size = some { cls := .type "tuple", data := .seq rest.toArray } := Heap.get?_push_size _ rfl
    have new : ObjOk P w (upd H s.heap.objs.size (.tup rsV)) (s.heap.push { cls := .type "tuple", data := .seq rest.toArray }) s.heap.objs.size (.tup rsV) := ⟨hsz, rest, rr, ⟨_, hget, rfl, _, rfl⟩⟩
    have un : Un (frs outer) [] H (upd H s.heap.objs.size (.tup rsV)) s.heap (s.heap.push { cls := .type "tuple", data := .seq rest.toArray }) := StX.un_laid hp
    exact h _ _ (wsV ++ [V.ref s.heap.objs.size]) (us ++ [Value.ref s.heap.objs.size]) (StX.env0_laid e0 new) un rfl (fun e s' q => cxUpN outer s H { heap := s.heap.push { cls := .type "tuple", data := .seq rest.toArray }, gens := s.gens, drawn := s.drawn, toks := s.toks, os := s.os } (upd H s.heap.objs.size (.tup rsV)) E e s' un (fun b o e => Heap.get?_push_of_some _ e) rfl q) (pair_app rv (.cons rfl .nil)) (by simp [hlw]) ⟨_, hp, rfl, rfl⟩
  · obtain ⟨p, hp, rfl, rfl⟩ := hg
    have g : Grow Hf H (upd Hf p (.tup rsV)) (upd H p (.tup rsV)) := .new S0.le hp
    have S1 := S0.grow g
    have rs1 : Paired (RelR K mg am (upd Hf p (.tup rsV))) (wsV ++ [V.ref p]) (ys ++ [.d (.tuple ds)]) := pair_app (rs.mono fun a b h => h.mono g.stp) (.cons (Rp.tup (Evl.st_of upd_same) (ra.mono g.lf)) .nil)
    have HB := hbody cdv A outer s2 (upd H p (.tup rsV)) E hr2 hgd
    refine ⟨_, HB, ?_⟩
    generalize upd Hf p (.tup rsV) = Hf1 at *
    generalize upd H p (.tup rsV) = H1 at *
    have hys : (ys ++ [R.d (.tuple ds)]).length = (wsV ++ [V.ref p]).length := (pairLen rs1).symm
    generalize ys ++ [R.d (.tuple ds)] = ys1 at *
    generalize wsV ++ [V.ref p] = vs1 at *
    have lenS : am.pl.length = st0.length := S1.len.symm
    have Sst : Sim K mg am Hf1 H1 (L2.start N vs1) ⟨ys1.map some ++ List.replicate (N.length - ys1.length) none, st0⟩ := by
      refine ⟨S1.le, S1.len, S1.nd, S1.tr, S1.cell, S1.ou, fun i z h => ?_, ?_⟩
      · have h' : (ys1.map some ++ List.replicate (N.length - ys1.length) none)[i]? = some (some z) := h
        by_cases hi : i < ys1.length
        · rw [List.getElem?_append_left (by rw [List.length_map]; exact hi), List.getElem?_map] at h'
          cases e : ys1[i]? with
          | none =>
            rw [e] at h'
            cases h'
          | some y =>
            rw [e] at h'
            have ey : y = z := by simpa using h'
            rw [← ey]
            have go : ∀ {vs : List V} {ys : List R} {i : Nat} {y : R}, Paired (RelR K mg am Hf1) vs ys → ys[i]? = some y → ∃ v, vs[i]? = some v ∧ RelR K mg am Hf1 v y := by
              intro vs ys i y r
              induction r generalizing i with
              | nil => intro e; cases e
              | cons h t ih =>
                intro e
                cases i with
                | zero =>
                  cases e
                  exact ⟨_, rfl, h⟩
                | succ i => exact ih (i := i) e
            obtain ⟨v, h1, h2⟩ := go rs1 e
            refine ⟨v, ?_, h2⟩
            unfold L2.start
            rw [List.getElem?_append_left (by rw [List.length_map]; omega), List.getElem?_map, h1]
            rfl
        · rw [List.getElem?_append_right (by rw [List.length_map]; omega), List.getElem?_replicate] at h'
          split at h' <;> cases h'
      · show (ys1.map some ++ List.replicate (N.length - ys1.length) none).length = (L2.start N vs1).length
        unfold L2.start
        simp only [List.length_append, List.length_map, List.length_replicate]
        omega
    exact ⟨am, Hf1, _, _, Sst, hG, fun r' am' Hf' H' s' p2 S' q => by
      obtain ⟨p1, _⟩ := p2.cut
      refine hk (.d .none) _ _ _ _ _ (g.stp.trans p1) (S'.cut am.pl.length) Rp.non ?_
      rw [lenS]
      exact q, fun y r' am' Hf' H' s' v p2 S' rr q => fin_ok lenS p2 S' rr q fun y st' am2 Hf2 H2 v2 p3 S3 r3 q3 => hk y st' am2 Hf2 H2 v2 (g.stp.trans p3) S3 r3 q3, fun _ _ _ _ _ _ _ q => q.elim, fun _ _ _ _ _ _ _ q => q.elim, fun e r' am' Hf' H' s' C d p2 S' er q => by
      obtain ⟨p1, _⟩ := p2.cut
      refine hx e _ _ _ _ _ _ (g.stp.trans p1) (S'.cut am.pl.length) er ?_
      rw [lenS]
      exact q⟩
theorem FnGV.mono {j k : Nat} {f : Addr} {fd : FuncData} {ps : List Str} {pv : Str} {G : FS} (F : FnGV P w K mg base j f fd ps pv G) (h : j ≤ k) : FnGV P w K mg base k f fd ps pv G := ⟨fun A outer s H args us rest ws rs Q E hr => F.run A outer s H args us rest ws rs Q E (hr.mono h)⟩
end
/-! ### calls -/
def BVp (K : PySem.W.Frag) (fd : FuncData) (ps : List Str) (pv : Str) : Prop := ∀ us rest : List Value, us.length = ps.length → BV fd ps pv ⟨us ++ rest, []⟩ us rest
theorem Fun.bvp {K : PySem.W.Frag} {x qual : Str} {st : Stmt} {f : Addr} {fd : FuncData} {ps : List Str} {pv : Str} (F : Fun K x qual st f fd)
    (h : ∀ (kV doc pm : Value) (an : Option Addr) (cdv ct : Value) (us rest : List Value), us.length = ps.length → bindArgs (PySem.W.fnOf x qual (defArgs st) (defBody st) (defScope st) Value.none kV doc pm an cdv ct) ⟨us ++ rest, []⟩ = (newTuple rest >>= fun t => pure (ps.zip us ++ [(pv, t)]))) : BVp K fd ps pv := by
  obtain ⟨oc, od, kV, doc, pm, an, cdv, ct, osl, rfl, lk, hcd⟩ := F.ex
  exact fun us rest hl => ⟨hl, h kV doc pm an cdv ct us rest hl⟩
def dataL : List R → Option (List D)
  | [] => some []
  | .d d :: l => (dataL l).map (d :: ·)
  | _ :: _ => none
theorem dataL_ok {K : PySem.W.Frag} {mg : Str → Option Value} {am : Am} {Hf : Hp} : ∀ {ys : List R} {vs : List V} {ds : List D}, dataL ys = some ds → Paired (RelR K mg am Hf) vs ys → RpA K Hf vs ds
  | [], _, ds, h, .nil => by
    cases h
    exact .nil
  | .d d :: ys, _, ds, h, .cons r t => by
    cases e : dataL ys with
    | none =>
      simp [dataL, e] at h
    | some es =>
      simp [dataL, e] at h
      subst h
      exact .cons r (dataL_ok e t)
  | .l _ :: _, _, _, h, _ => by simp [dataL] at h
  | .o _ :: _, _, _, h, _ => by simp [dataL] at h
theorem dataL_len : ∀ {ys : List R} {ds : List D}, dataL ys = some ds → ys.length = ds.length
  | [], ds, h => by
    cases h
    rfl
  | .d d :: ys, ds, h => by
    cases e : dataL ys with
    | none =>
      simp [dataL, e] at h
    | some es =>
      simp [dataL, e] at h
      subst h
      simp [dataL_len e]
  | .l _ :: _, _, h => by simp [dataL] at h
  | .o _ :: _, _, h => by simp [dataL] at h
def wStarG (n : Nat) (G : FS) (ys : List R) (r1 : Env) (k : KE) (x : XQ) : Prop := n ≤ ys.length ∧ match dataL (ys.drop n) with
  | some ds => ds.length ≤ sizeLine ∧ G (ys.take n ++ [.d (.tuple ds)]) r1.st (fun y st' => k y ⟨r1.sl, st'⟩) (fun e st' => x e ⟨r1.sl, st'⟩)
  | none => False
section
variable {X : Cx} {W : WX} {k n : Nat} {f : Addr} {fd : FuncData} {ps ks : List Str} {pv : Str} {G : FS} {x : Str} {p pos kpos : Pos} {e : Expr} {es : List Expr} {kws : List Keyword} {wr wk : WA} {we : WE}
/-- the callee runs -/
theorem run_GV {pins : List (Addr × Obj)} {σ : L2.St} {s : Shared} {H : Hp} {am : Am} {Hf : Hp} {r : Env} {vs rs : List V} {ys : List R} {ds : List D} {args : Args} {us rest : List Value} {kk : KE} {xx : XQ} {Q : VK} (F : FnGV X.prog X.w X.K X.mg X.base k f fd ps pv G) (hr : Room k X.A) (hgd : X.A.guards = some []) (tk : L2N.Takes X W)
    (I : Inv X pins σ H s) (S : Sim X.K X.mg am Hf H σ r) (rv : Vals vs us) (rr : Vals rs rest) (ra : Paired (RelR X.K X.mg am Hf) vs ys) (rd : RpA X.K Hf rs ds) (hb : BV fd ps pv args us rest) (hl : ys.length = ps.length) (hz : rs.length ≤ sizeLine)
    (h : G (ys ++ [.d (.tuple ds)]) r.st (fun y st' => kk y ⟨r.sl, st'⟩) (fun e st' => xx e ⟨r.sl, st'⟩))
    (hk : ∀ y r' am' Hf' H' v, Stp am Hf H am' Hf' H' → Sim X.K X.mg am' Hf' H' σ r' → RelR X.K X.mg am' Hf' v y → kk y r' → Q v H') (hx : XC X.K X.mg W xx am Hf H σ) :
    codeAny (model X.prog X.w) X.A (.call (.ref f) args) (fun rr s' => match rr with
      | .ok (.ret u) => EP X pins σ Q u s'
      | .ok _ => False
      | .error e => X.xe e s') s := by
  refine codeAny_mono (F.run X.A X.stack s H args us rest vs rs Q (fun C d H' => W C d σ H') hr hgd I.env0 hb rv rr ⟨am, Hf, r.st, ys, ds, _, _, S.noslots, ra, rd, hl, hz, h, fun y st' am' Hf' H' v p S' rr q => hk y _ am' Hf' H' v p (S.reslot p S') rr q, fun e st' am' Hf' H' C d p S' er q => hx e _ am' Hf' H' σ C d p (S.reslot p S') rfl er q⟩) fun rr s' hq => ?_
  cases rr with
  | error e => exact L2N.passAt tk σ pins H s e s' I hq
  | ok fl =>
    cases fl with
    | ret u => exact I.after hq
    | next => exact False.elim hq
    | brk => exact False.elim hq
    | cont => exact False.elim hq
end
end Dl

/-! the data layer, part V: a dict of two, get with a default -/
namespace Dl
open PySem
open PySem.Spec
open PyProof.Rows
open L2
open Evl (Ex)
section
variable {X : Cx} {W : WX} {pos apos : Pos} {e o ek ev ek2 ev2 ed : Expr} {we wk wv wk2 wv2 wd : WE}
end
end Dl

/-! the data layer, part W: sorted(set(..)) of any size -/
namespace Dl
open PySem
open PySem.Spec
open PyProof.Rows
open L2
open Evl (Ex)
section
variable {P : Program} {w : World} {A : Around} {E : Value → Shared → Prop} {s : Shared}
end
section
variable {X : Cx}
variable {W : WX} {we : WE} {e : Expr} {p p2 pos pos2 : Pos}
end
end Dl

/-! the data layer, part X: a token is out when a def begins; text.replace, list.index -/
namespace Dl
open PySem
open PySem.Spec
open PyProof.Rows
open L2
open Evl (Ex)
/-! ### list.index, ints -/
section
variable {X : Cx}
end
/-! ### a token is out -/
section
variable {X : Cx} {W : WX} {st : Stmt} {rest : List Stmt} {e o : Expr} {we wo : WE} {ws wu : WS} {pos apos c0 c1 : Pos}
end
section
variable {M : Model} {A : Around} {E : Value → Shared → Prop} {s₀ s : Shared} {m cm : Str → Option Value} {env : PySem.Env}
end
section
variable {M : Model} {A : Around} {E : Value → Shared → Prop} {s : Shared}
end
section
variable {P : Program} {w : World} {K : PySem.W.Frag} {mg : Str → Option Value} {base : Heap}
end
end Dl

/-! exceptions with a field of their own: raised, kept, read -/
namespace PySem
namespace XFld
open PySem.W PySem.Calls PyProof.Rows PySem.HandSPX
end XFld
end PySem

namespace PySem
namespace XTooLong
open PySem.W PySem.Calls PyProof.Rows PySem.HandSPX PySem.XFld
/-! ### the text of __init__ -/
section
variable {prog : Program} {w : World} {A : Around} {E : Value → Shared → Prop} {R : Result → Shared → Prop} {s : Shared} {K : Frag} {mg : Str → Option Value} {C fI : Addr}
end
end XTooLong
end PySem
namespace L2
open PySem PySem.Spec PyProof.Rows
section
variable {X : Cx} {C fI : Addr}
end
end L2

namespace Dl
open PySem
open PySem.Spec
open PyProof.Rows
open L2
/-- raise cn(e), its field f -/
def rfK (cn f : Str) (x : XQ) (y : R) (r : Env) : Prop := match y with
  | .d d => x ⟨cn, [(f, d)]⟩ r
  | _ => False
def wRaiseF (cn f : Str) (we : WE) : WS := fun r p => we r (fun y r1 => rfK cn f p.ex y r1) p.ex
/-- e.f, e a kept exception of the class cn -/
def wXF (cn f : Str) (we : WE) : WE := fun r k x => we r (fun y r1 => ∃ d, y = .o (.exc ⟨cn, [(f, d)]⟩) ∧ k (.d d) r1) x
end Dl

namespace L2
open PySem PySem.Spec PyProof.Rows
section
variable {X : Cx} {C fI : Addr}
end
end L2
namespace Dl
open PySem
open PySem.Spec
open PyProof.Rows
open L2
section
variable {X : Cx} {W : WX} {C fI : Addr} {p pos pos2 : Pos} {e : Expr} {we : WE} {k : Nat}
end
end Dl

namespace Dl
open PySem
open PySem.Spec
open PyProof.Rows
open L2
theorem TabOk.nil {K : PySem.W.Frag} {mg : Str → Option Value} {cv : Value} : TabOk K mg cv [] := fun x b' h => by cases h
theorem TabOk.cons {K : PySem.W.Frag} {mg : Str → Option Value} {cv : Value} {cn : Str} {c : Addr} {b : Bool} {tab : List (Str × Bool)} (hm : mg cn = some (.ref c)) (E : ExcC K c) (hk : PySem.W.kitOne K (.ref c) cv = some b) (t : TabOk K mg cv tab) : TabOk K mg cv ((cn, b) :: tab) := by
  intro x b' h C hC
  rw [List.lookup_cons] at h
  split at h
  · rename_i hx
    have e : x = cn := eq_of_beq hx
    subst e
    rw [hm] at hC
    cases hC
    cases h
    exact ⟨E, hk⟩
  · exact t x b' h C hC
end Dl

/-! the data layer, part Z: defs that run while an exception is handled -/
namespace L2H
open PySem
open PySem.Spec
open PyProof.Rows
open L2
theorem RoomH.units {k : Nat} {A : Around} (r : RoomH k A) : A.units + 64 < cLine := by have := r.un; omega
end L2H
namespace Dl
open PySem
open PySem.Spec
open PyProof.Rows
open L2
open Evl (Ex)
abbrev SSt := L2.St
/-- the handled exception stands frozen in what the def was given -/
def HotE (X : Cx) : Prop := ∃ (a : Addr) (oe : Obj) (c : Value) (d : Option Addr), X.A.handled = some (.ref a) ∧ X.H_0 a = some (.frz oe (ExcH c d a))
theorem HotE.at {X : Cx} {pins : List (Addr × Obj)} {σ : SSt} {H : Hp} {s : Shared} (c : HotE X) (I : Inv X pins σ H s) : ∃ x1, HotX.HotAt X.A x1 s.heap := by
  obtain ⟨a, oe, c0, d0, hh, h0⟩ := c
  obtain ⟨_, ⟨oe', vs, e2, z, hd⟩, _, _⟩ := I.hok a _ (I.base.frzs a oe _ h0)
  exact ⟨a, hh, oe', vs, e2, hd, z.2.2 vs hd⟩
/-! ### an iterator over a range, there -/
section
variable {X : Cx} {tg : Expr}
end
/-! ### comprehensions over a range, there -/
theorem HotE.blk {X : Cx} {pins : List (Addr × Obj)} {σ : SSt} {H : Hp} {s : Shared} {scope : Scope} {ce : PySem.Env} {fp : List Addr} (c : HotE X) (I : Inv X pins σ H s) : HotE (X.blk s H scope ce fp) := by
  obtain ⟨a, oe, c0, d0, hh, h0⟩ := c
  exact ⟨a, oe, c0, d0, hh, I.base.frzs a oe _ h0⟩
section
variable {X : Cx}
end
/-! ### defs that are called there -/
structure FnGH (P : Program) (w : World) (K : PySem.W.Frag) (mg : Str → Option Value) (base : Heap) (k : Nat) (f : Addr) (fd : FuncData) (ps : List Str) (G : FS) : Prop where
  run : ∀ (A : Around) (outer : List PySem.Env) (s : Shared) (H : Hp) (args : Args) (us : List Value) (vs : List V) (Q : VK) (E : XK) (a0 : Addr) (oe : Obj) (c0 : Value) (d0 : Option Addr), L2H.RoomH k A → A.handled = some (.ref a0) → H a0 = some (.frz oe (ExcH c0 d0 a0)) →
    A.guards = some [] → Env0 P w K mg base A outer s H → BindsTo s fd args (ps.zip us) → Vals vs us → spD K mg ps.length G vs H Q E → codeAny (model P w) A (.call (.ref f) args) (CR (L2N.CX P w) outer P w H s Q E) s
section
variable {K : PySem.W.Frag} {mg : Str → Option Value} {am : Am} {Hf H : Hp}
end
section
variable {P : Program} {w : World} {K : PySem.W.Frag} {mg : Str → Option Value} {base : Heap}
theorem FnGH.mono {j k : Nat} {f : Addr} {fd : FuncData} {ps : List Str} {G : FS} (F : FnGH P w K mg base j f fd ps G) (h : j ≤ k) : FnGH P w K mg base k f fd ps G := ⟨fun A outer s H args us vs Q E a0 oe c0 d0 hr => F.run A outer s H args us vs Q E a0 oe c0 d0 (hr.mono h)⟩
end
section
variable {X : Cx} {k : Nat} {f : Addr} {fd : FuncData} {ps : List Str} {G : FS} {g : Str} {p pos : Pos} {e : Expr} {te : TE}
end
/-! ### a handler that hands the exception to a def and returns what it says -/
section
variable {X : Cx} {x n g : Str} {c : Value} {i np1 : Nat} {G : FS} {body : List Stmt} {np pos pos' p2 gp cp rp : Pos} {tb : WX → TS} {Wout : WX}
end
section
variable {X : Cx} {W : WX} {x n g : Str} {c : Value} {i k : Nat} {f : Addr} {fd : FuncData} {ps : List Str} {G : FS} {body : List Stmt} {np pos pos' p2 gp cp rp : Pos} {wb : WS} {cs : List Str}
end
/-! ### isinstance against a tuple of classes -/
def TabOkT (K : PySem.W.Frag) (mg : Str → Option Value) (Cs : List Addr) (tab : List (Str × Bool)) : Prop := ∀ cn b, tab.lookup cn = some b → ∀ C, mg cn = some (.ref C) → ExcC K C ∧ PySem.W.kitAny K (.ref C) (Cs.map Value.ref) = some b
section
variable {X : Cx} {W : WX} {pos p p2 p4 : Pos} {e : Expr} {es : List Expr} {we : WE} {tk}
end
theorem TabOkT.nil {K : PySem.W.Frag} {mg : Str → Option Value} {Cs : List Addr} : TabOkT K mg Cs [] := fun x b' h => by cases h
theorem TabOkT.cons {K : PySem.W.Frag} {mg : Str → Option Value} {Cs : List Addr} {cn : Str} {c : Addr} {b : Bool} {tab : List (Str × Bool)} (hm : mg cn = some (.ref c)) (E : ExcC K c) (hk : PySem.W.kitAny K (.ref c) (Cs.map Value.ref) = some b) (t : TabOkT K mg Cs tab) : TabOkT K mg Cs ((cn, b) :: tab) := by
  intro x b' h C hC
  rw [List.lookup_cons] at h
  split at h
  · rename_i hx
    have e : x = cn := eq_of_beq hx
    subst e
    rw [hm] at hC
    cases hC
    cases h
    exact ⟨E, hk⟩
  · exact t x b' h C hC
/-! ### comprehensions, on data -/
section
variable {X : Cx} {W : WX} {tg a : Expr} {p pos : Pos} {wr : WA}
end
/-! ### repr of a list of values, some of them with an empty dict -/
section
variable {prog : Program} {w : World} {h₀ : Heap}
end
section
variable {X : Cx} {W : WX} {pos p p2 : Pos} {es : List Expr} {wr : WA}
end
end Dl

/-! the data layer, part EA: the least of a list of tuples -/
namespace Dl
open PySem
open PySem.Spec
open PyProof.Rows
open L2
open Evl (Ex)
section
variable {X : Cx}
theorem Vals.back : ∀ {xs : List V} {us : List Value} {i : Nat} {u : Value}, Vals xs us → us[i]? = some u → ∃ x, xs[i]? = some x ∧ RelV x u
  | _, _, _, _, .nil, e => by simp at e
  | _, _, 0, _, .cons r _, e => by
    simp at e
    subst e
    exact ⟨_, rfl, r⟩
  | _, _, i + 1, u, .cons _ t, e => by
    obtain ⟨x, h1, h2⟩ := Vals.back (i := i) (u := u) t (by simpa using e)
    exact ⟨x, by simpa using h1, h2⟩
end
end Dl

/-! the data layer, part EB: sorted lists of tuples -/
namespace Dl
open PySem
open PySem.Spec
open PyProof.Rows
open L2
open Evl (Ex)
section
variable {X : Cx}
end
end Dl

/-! the data layer, part EC: a handler that returns an expression of its own -/
namespace Dl
open PySem
open PySem.Spec
open PyProof.Rows
open L2
open Evl (Ex)
section
variable {X : Cx} {x n : Str} {c : Value} {i : Nat} {te : TE} {eh : Expr} {body : List Stmt} {np pos pos' rp : Pos} {tb : WX → TS} {Wout : WX}
end
section
variable {X : Cx} {W : WX} {x n : Str} {c : Value} {i : Nat} {eh : Expr} {we : WE} {body : List Stmt} {np pos pos' rp : Pos} {wb : WS} {cs : List Str}
end
end Dl

/-! the data layer, part ED: len of an instance of an own class -/
namespace PySem.W
open PySem PySem.Calls PyProof.Rows Builtin
end PySem.W
namespace Dl
open PySem
open PySem.Spec
open PyProof.Rows
open L2
open Evl (Ex)
section
variable {X : Cx} {W : WX} {k : Nat} {p pos : Pos} {o : Expr} {ws : WA}
end
/-! ### tuple(a text) -/
section
variable {X : Cx}
end
end Dl

/-! the data layer, part EE: defs with defaults, methods with *more -/
namespace Dl
open PySem
open PySem.Spec
open PyProof.Rows
open L2
open Evl (Ex)
/-- a def of the text, with whatever defaults -/
structure FunA (K : PySem.W.Frag) (x qual : Str) (st : Stmt) (f : Addr) (fd : FuncData) : Prop where
  ex : ∃ (oc : Value) (od : Option Addr) (dV kV doc pm : Value) (an : Option Addr) (cdv ct : Value) (osl : Array (Option Value)),
    fd = PySem.W.fnOf x qual (defArgs st) (defBody st) (defScope st) dV kV doc pm an cdv ct ∧ K.lookup f = some ⟨oc, od, .func fd, osl⟩ ∧ PySem.W.codeIn K cdv qual = true
  kp : PySem.W.keepIn K (.ref f) = true
/-- a def with n defaults in a tuple -/
structure FunT (K : PySem.W.Frag) (x qual : Str) (st : Stmt) (n : Nat) (f : Addr) (fd : FuncData) : Prop where
  ex : ∃ (oc : Value) (od : Option Addr) (T : Addr) (kV doc pm : Value) (an : Option Addr) (cdv ct : Value) (osl : Array (Option Value)) (o : Obj) (its : List Value) (z : Nat),
    fd = PySem.W.fnOf x qual (defArgs st) (defBody st) (defScope st) (.ref T) kV doc pm an cdv ct ∧ K.lookup f = some ⟨oc, od, .func fd, osl⟩ ∧ PySem.W.codeIn K cdv qual = true ∧ K.lookup T = some o ∧ o.data = .seq its.toArray z ∧ its.length = n
  kp : PySem.W.keepIn K (.ref f) = true
theorem FunT.any {K : PySem.W.Frag} {x qual : Str} {st : Stmt} {n : Nat} {f : Addr} {fd : FuncData} (F : FunT K x qual st n f fd) : FunA K x qual st f fd := by
  obtain ⟨oc, od, T, kV, doc, pm, an, cdv, ct, osl, o, its, z, e, lk, hcd, _⟩ := F.ex
  exact ⟨⟨oc, od, .ref T, kV, doc, pm, an, cdv, ct, osl, e, lk, hcd⟩, F.kp⟩
/-- all parameters are written -/
theorem FunT.binds {K : PySem.W.Frag} {x qual : Str} {st : Stmt} {n : Nat} {f : Addr} {fd : FuncData} {ps : List Str} (F : FunT K x qual st n f fd)
    (h : ∀ (T : Addr) (kV doc pm : Value) (an : Option Addr) (cdv ct : Value) (us its : List Value), us.length = ps.length → its.length = n →
      ∃ k, bindArgs (PySem.W.fnOf x qual (defArgs st) (defBody st) (defScope st) (.ref T) kV doc pm an cdv ct) ⟨us, []⟩ = seqItems? (.ref T) >>= k ∧ k (some its.toArray) = pure (ps.zip us)) : Binds K fd ps [] := by
  obtain ⟨oc, od, T, kV, doc, pm, an, cdv, ct, osl, o, its, z, rfl, lk, hcd, lT, oT, hn⟩ := F.ex
  refine fun s us X hlen => ?_
  rw [List.append_nil] at hlen ⊢
  obtain ⟨k, e1, e2⟩ := h T kV doc pm an cdv ct us its hlen hn
  refine BindsTo.of_looks fun M => ?_
  rw [e1]
  exact looks_items X lT oT (.of_pure e2)
theorem funT_mk {K : PySem.W.Frag} {x qual : Str} {st : Stmt} {n z : Nat} {f T : Addr} {oc : Value} {od an : Option Addr} {osl : Array (Option Value)} {kV doc pm cdv ct : Value} {o : Obj} {its : List Value} (l : K.lookup f = some ⟨oc, od, .func (PySem.W.fnOf x qual (defArgs st) (defBody st) (defScope st) (.ref T) kV doc pm an cdv ct), osl⟩)
    (c : PySem.W.codeIn K cdv qual = true) (k : PySem.W.keepIn K (.ref f) = true) (lT : K.lookup T = some o) (oT : o.data = .seq its.toArray z) (hn : its.length = n) : FunT K x qual st n f (PySem.W.fnOf x qual (defArgs st) (defBody st) (defScope st) (.ref T) kV doc pm an cdv ct) := ⟨⟨oc, od, T, kV, doc, pm, an, cdv, ct, osl, o, its, z, rfl, l, c, lT, oT, hn⟩, k⟩
section
variable {P : Program} {w : World} {K : PySem.W.Frag} {mg : Str → Option Value} {base : Heap}
theorem fnG_ofA {x qual : Str} {st : Stmt} {f : Addr} {fd : FuncData} {N ps : List Str} {k : Nat} {ws : WS} (F : FunA K x qual st f fd) (S : FnScope N ps (defScope st))
    (hbody : ∀ (cdv : Value) (A : Around) (outer : List PySem.Env) (s : Shared) (H : Hp) (E : XK), Room k (A.deeper (envOfC qual (defScope st) s.heap.objs.size f cdv)) → A.guards = some [] →
      SB (cxOf (L2N.CX P w) P w K mg base N qual (defScope st) f cdv A outer s H E) (fun C d _ H => E C d H) (defBody st) ws) : FnG P w K mg base (k + 1) f fd ps (runF N.length ws) := by
  obtain ⟨oc, od, dV, kV, doc, pm, an, cdv, ct, osl, rfl, lk, hcd⟩ := F.ex
  refine ⟨fun A outer s H args us vs Q E hr hgd e0 hb r hsp => ?_⟩
  obtain ⟨am, Hf, st0, ys, kk, xx, S0, rs, hlen, hG, hk, hx⟩ := hsp
  have hl : vs.length = ps.length := (pairLen rs).trans hlen
  have KX : K.In s.heap := e0.mod.kin.keeps fun b o e => (e0.bs b o e).1
  have lim : s.heap.NoLimit := e0.mod.nolimit.keeps fun b o e => (e0.bs b o e).1
  have hkind : ∀ y ∈ ps.zip us, (defScope st).names.lookup y.1 = some .local ∨ ((defScope st).names.lookup y.1 = some .cell ∧ ((cellsFrom (s.heap.objs.size + 1) (defScope st).names []).lookup y.1).isSome = true) := fun ⟨n, v⟩ hy =>
    (S.par n (List.of_mem_zip hy).1).elim .inl fun q => .inr ⟨q, PySem.W.cellsFrom_some _ _ _ (.inl q)⟩
  refine codeAny_call_function hr.depth (KX _ _ lk) rfl S.co S.gen rfl (PySem.W.codeRec_of KX hcd) (hb _ _ _ _ (wpAny_newFunctionEnv_cells S.kind hkind fun env he s1 ic => ?_))
  subst he
  have J0 : Inv (cxOf (L2N.CX P w) P w K mg base N qual (defScope st) f cdv A outer s H E) [] (L2.start N vs) H s1 := inv_start S hr.hd e0 hl r ic
  have T := (hbody cdv A outer s H E (hr.deeper _) hgd).run [] s1 (L2.start N vs) H { nx := fun _ H' => Q .non H', rt := Q } J0
  have lenS : am.pl.length = st0.length := S0.len.symm
  have hys : ys.length = vs.length := (pairLen rs).symm
  have Sst : Sim K mg am Hf H (L2.start N vs) ⟨ys.map some ++ List.replicate (N.length - ys.length) none, st0⟩ := by
    refine ⟨S0.le, S0.len, S0.nd, S0.tr, S0.cell, S0.ou, fun i z h => ?_, ?_⟩
    · have h' : (ys.map some ++ List.replicate (N.length - ys.length) none)[i]? = some (some z) := h
      by_cases hi : i < ys.length
      · rw [List.getElem?_append_left (by rw [List.length_map]; exact hi), List.getElem?_map] at h'
        cases e : ys[i]? with
        | none =>
          rw [e] at h'
          cases h'
        | some y =>
          rw [e] at h'
          have ey : y = z := by simpa using h'
          rw [← ey]
          have go : ∀ {vs : List V} {ys : List R} {i : Nat} {y : R}, Paired (RelR K mg am Hf) vs ys → ys[i]? = some y → ∃ v, vs[i]? = some v ∧ RelR K mg am Hf v y := by
            intro vs ys i y r
            induction r generalizing i with
            | nil => intro e; cases e
            | cons h t ih =>
              intro e
              cases i with
              | zero =>
                cases e
                exact ⟨_, rfl, h⟩
              | succ i => exact ih (i := i) e
          obtain ⟨v, h1, h2⟩ := go rs e
          refine ⟨v, ?_, h2⟩
          unfold L2.start
          rw [List.getElem?_append_left (by rw [List.length_map]; omega), List.getElem?_map, h1]
          rfl
      · rw [List.getElem?_append_right (by rw [List.length_map]; omega), List.getElem?_replicate] at h'
        split at h' <;> cases h'
    · show (ys.map some ++ List.replicate (N.length - ys.length) none).length = (L2.start N vs).length
      unfold L2.start
      simp only [List.length_append, List.length_map, List.length_replicate]
      omega
  have R0 := T ⟨am, Hf, _, _, Sst, hG, fun r' am' Hf' H' s' p S' q => by
      obtain ⟨p1, _⟩ := p.cut
      refine hk (.d .none) _ _ _ _ _ p1 (S'.cut am.pl.length) Rp.non ?_
      rw [lenS]
      exact q, fun y r' am' Hf' H' s' v p S' rr q => fin_ok lenS p S' rr q hk, fun _ _ _ _ _ _ _ q => q.elim, fun _ _ _ _ _ _ _ q => q.elim, fun e r' am' Hf' H' s' C d p S' er q => by
      obtain ⟨p1, _⟩ := p.cut
      refine hx e _ _ _ _ _ _ p1 (S'.cut am.pl.length) er ?_
      rw [lenS]
      exact q⟩
  refine ⟨lim.keeps ic.toInCall.keep, codeAny_func (wpAny_mono R0 (fun fl s' hs => ?_) fun e s' hs => hs)⟩
  cases fl with
  | ret u =>
    obtain ⟨v, σ', H', J, rv, q⟩ := hs
    exact ⟨v, H', J.os, J.bare, J.base, J.hok, rv, q⟩
  | next =>
    obtain ⟨σ', H', J, q⟩ := hs
    exact ⟨V.non, H', J.os, J.bare, J.base, J.hok, rfl, q⟩
  | brk =>
    obtain ⟨_, _, _, q⟩ := hs
    exact q.elim
  | cont =>
    obtain ⟨_, _, _, q⟩ := hs
    exact q.elim
end
/-! ### y.m(e, ..), m with *more -/
structure MGV (P : Program) (w : World) (K : PySem.W.Frag) (mg : Str → Option Value) (base : Heap) (k : Nat) (m cn : Str) (G : FS) : Prop where
  ex : ∃ C, mg cn = some (.ref C) ∧ Cls K C ∧ ∃ f fd ps pv, Meth K C m f ∧ FnGV P w K mg base k f fd ps pv G ∧ BVp K fd ps pv ∧ ps.length = 1
  no : m ∉ flds cn
def wMethV (tb : List (Str × FS)) (wo : WE) (wr : WA) : WE := fun r k x => wo r (fun y r1 => isRef y (tb.map (·.1)) fun i cn => lstAt r1 i fun _ => wr r1 (fun ys r2 => match tb.lookup cn with
  | some G => wStarG 1 G (y :: ys) r2 k x
  | none => False) x) x
section
variable {X : Cx} {W : WX} {k : Nat} {m : Str} {p pos apos : Pos} {e o : Expr} {es : List Expr} {wo we : WE} {wr : WA}
theorem se_methV {tb : List (Str × FS)} {pl : Sem Bool} (hM : ∀ p ∈ tb, MGV X.prog X.w X.K X.mg X.base k m p.1 p.2) (hr : Room k X.A) (hgd : X.A.guards = some []) (tk : L2N.Takes X W) (ho : SE X W o wo) (ha : SA X W (e :: es) wr)
    (hst : starEach (e :: es) X.env = (false, eval e X.env) :: starEach es X.env := by rfl) (hpl : (backTo pos (starEach es X.env)).any (·.1) = false := by rfl)
    (ht : eval (.Call (.Attribute o m apos) (e :: es) [] pos) X.env = (do
      let ov ← eval o X.env
      standAt apos.atName
      let (f, first) ← holding [ov] (getMethod ov m pl)
      callWith pos f first (backTo pos (starEach (e :: es) X.env)) (backToKw pos (keywordEach [] X.env))) := by rfl) :
    SE X W (.Call (.Attribute o m apos) (e :: es) [] pos) (wMethV tb wo wr) := by
  refine ⟨fun pins s σ H Q I h => ?_⟩
  obtain ⟨am, Hf, r, kk, xx, S, hw, hk, hx⟩ := h
  refine PySem.W.methodCall_KW (pl := pl) (thn (ho.run pins s σ H _ I (aftE S hw hx)) fun u s1 ⟨v, H1, I1, rv1, y, r1, am1, Hf1, p1, S1, rr, q⟩ => ?_) ht
  obtain ⟨i, cn, a, rfl, rfl, ha1, hcn, q⟩ := isRef_ok rr q
  obtain ⟨ds, hds, q⟩ := lstAt_ok q
  obtain rfl : u = Value.ref a := rv1
  obtain ⟨G, hG⟩ := mem_lookup hcn
  have hMG := hM _ (lookup_mem hG)
  obtain ⟨C, hmg, hcl, f, fd, ps, pv, hme, F, hb, hn⟩ := hMG.ex
  obtain ⟨h0, C1, dx, fs, e1, hmg1, hnm, _, _⟩ := S1.insAt ha1 hds
  rw [hmg] at hmg1
  cases hmg1
  have hlk : fs.lookup m = none := lookup_no fun z => hMG.no (by
    rw [hnm] at z
    exact List.mem_of_mem_take z)
  refine getmeth_ok I1 e1 hcl hme hlk ?_
  refine PySem.W.callWith_K (first := [.ref a]) (h₀ := X.base) I.ok.mod.kin hme.kp (thn (ha.run pos pins s1 σ H1 (fun vs H2 => ∃ ys r2 am2 Hf2, Stp am1 Hf1 H1 am2 Hf2 H2 ∧ Sim X.K X.mg am2 Hf2 H2 σ r2 ∧ Paired (RelR X.K X.mg am2 Hf2) vs ys ∧ wStarG 1 G (.o (.ref i cn) :: ys) r2 kk xx) I1
    ⟨am1, Hf1, r1, _, xx, S1, q, fun ys r2 am2 Hf2 H2 vs p2 S2 rs q => ?_, hx.next p1⟩) fun us s2 ⟨vs, H2, I2, rv, ys, r2, am2, Hf2, p2, S2, rs, hl, q⟩ => ⟨I2.kIn, ?_⟩) hst hpl
  · refine ⟨ys, r2, am2, Hf2, p2, S2, rs, ?_⟩
    rw [hG] at q
    exact q
  have e0 : (R.o (.ref i cn) :: ys).drop 1 = ys := rfl
  have e2 : (R.o (.ref i cn) :: ys).take 1 = [R.o (.ref i cn)] := rfl
  rw [e0, e2] at q
  cases ed : dataL ys with
  | none =>
    rw [ed] at q
    exact q.elim
  | some es2 =>
    rw [ed] at q
    obtain ⟨hz, q⟩ := q
    have hbb := hb [.ref a] us (by rw [hn]; rfl)
    refine wpAny_call (codeAny_mono (run_GV (ys := [R.o (.ref i cn)]) F hr hgd tk I2 S2 (.cons (show RelV (V.ref a) (Value.ref a) from rfl) .nil) rv (.cons (show RelR X.K X.mg am2 Hf2 _ (.o (.ref i cn)) from ⟨a, rfl, p2.at ha1⟩) .nil) (dataL_ok ed rs) hbb (by rw [hn]; rfl) (by rw [pairLen rs, dataL_len ed]; exact hz) q (fun y r' am' Hf' H' v p S' rr q => hk y r' am' Hf' H' v (p1.trans (p2.trans p)) S' rr q) (hx.next (p1.trans p2))) fun rr s' hq => ?_)
    cases rr with
    | error e => exact hq
    | ok fl =>
      cases fl with
      | ret u => exact hq
      | next => exact False.elim hq
      | brk => exact False.elim hq
      | cont => exact False.elim hq
end
/-! ### x.f.append(x.g), x.f a list of its own -/
def wAppF (i j j2 : Nat) (cns : List Str) : WE := fun r k _ => slotRef r i cns fun n _ => lstAt r n fun ds => fldAt ds j fun c => asL c fun cur => fldAt ds j2 fun d => unown d = none ∧ cur.length < sizeLine ∧ k (.d .none) (fput r n ds j (ownL (cur ++ [d])))
section
variable {X : Cx} {W : WX} {pos fpos npos gpos npos2 apos : Pos} {cns : List Str} {f g x : Str} {i j j2 : Nat}
theorem se_appF (i : Nat) (hc : ClF X.K X.mg cns f j) (hg : ClF X.K X.mg cns g j2) (hi : X.N[i]? = some x := by rfl) (hv : Vis X.env.scope x := by first | exact Or.inl rfl | exact Or.inr (Or.inl rfl) | exact Or.inr (Or.inr rfl)) (hd : (x == ("__debug__" : Str)) = false := by decide) (hcd : (x == ("__classdict__" : Str)) = false := by decide)
    (hb : attributeBase (.Name x npos) f X.env (eval (.Name x npos) X.env) = eval (.Name x npos) X.env := by rfl) (hb2 : attributeBase (.Name x npos2) g X.env (eval (.Name x npos2) X.env) = eval (.Name x npos2) X.env := by rfl)
    (hbase : attributeBase (.Attribute (.Name x npos) f fpos) "append" X.env (eval (.Attribute (.Name x npos) f fpos) X.env) = eval (.Attribute (.Name x npos) f fpos) X.env := by rfl)
    (hfew : ((backTo pos (starEach [.Attribute (.Name x npos2) g gpos] X.env)).all (fun x => !x.1) && (backToKw pos (keywordEach [] X.env)).all (fun x => x.1.isSome)
      && decide (([.Attribute (.Name x npos2) g gpos] : List Expr).length + ([] : List Keyword).length + (if ([] : List Keyword).isEmpty then 0 else 1) < 30)) = true := by rfl)
    (hline : (apos.endLine == pos.line) = true := by rfl) (hs : starEach [.Attribute (.Name x npos2) g gpos] X.env = (false, eval (.Attribute (.Name x npos2) g gpos) X.env) :: starEach [] X.env := by rfl) (hplain : (backTo pos (starEach [] X.env)).any (·.1) = false := by rfl) :
    SE X W (.Call (.Attribute (.Attribute (.Name x npos) f fpos) "append" apos) [.Attribute (.Name x npos2) g gpos] [] pos) (wAppF i j j2 cns) := by
  refine peI (pe_bm PySem.F.plainAttrs_list PySem.F.slot_list_append PySem.F.type_list_append (mt_append (X := X)) (pe_fld (pe_var (i := i) hi hv hd hcd) hb) (pa_cons (pe_fld (pe_var (i := i) hi hv hd hcd) hb2) pa_nil hs) hbase hfew hline hs hplain) fun s H Q h => ?_
  obtain ⟨am, Hf, r, k, xx, S, q, hk, hx⟩ := h
  obtain ⟨n, cn, a, hs1, ha, hcn, q⟩ := slotRef_ok S q
  obtain ⟨ds, hds, q⟩ := lstAt_ok q
  obtain ⟨c, hj, q⟩ := fldAt_ok q
  obtain ⟨cur, rfl, q⟩ := asL_ok q
  obtain ⟨d, hj2, hun, hlen, q⟩ := fldAt_ok q
  obtain ⟨C, dx, fs, f', v', h0, e1, hmg, hf, hp, hlk, it, hl8⟩ := S.holds ha hds hj
  rw [hc.at_ cn hcn] at hf
  obtain rfl := Option.some.inj hf
  obtain ⟨cl, na⟩ := hc.cl cn hcn C hmg
  obtain ⟨C2, dx2, fs2, f2, v2, _, e2, hmg2, hf2, hp2, hlk2, it2, _⟩ := S.holds ha hds hj2
  rw [e1] at e2
  cases e2
  rw [hg.at_ cn hcn] at hf2
  obtain rfl := Option.some.inj hf2
  obtain ⟨cl2, na2⟩ := hg.cl cn hcn C hmg
  have rd : Rp X.K Hf v2 d := by
    rcases itr_iff.mp it2 with it | ⟨b, o, _, _, _, _, hw⟩
    · exact it
    · obtain ⟨d', u1, _⟩ := own_of hw
      rw [u1] at hun
      cases hun
  obtain ⟨b, xs, rfl, hb, hfb, hHb, ra⟩ := own_list it
  obtain ⟨p3, S3⟩ := S.ownset (o' := .lst (xs ++ [v2])) ha hds e1 hp hb hfb (.inl ⟨_, _, rfl, rfl, ra.append (.cons rd .nil)⟩)
  refine ⟨_, hs1, a, C, dx, fs, _, rfl, e1, cl, na, hlk, .inl ⟨rfl, xs, Evl.sq_of hHb⟩, _, hs1, a, C, dx, fs, _, rfl, e1, cl2, na2, hlk2, b, xs, v2, rfl, rfl, hHb, by rw [ra.length]; exact hlen, ?_⟩
  exact hk (.d .none) _ am Hf _ _ p3 S3 Rp.non q
end
/-! ### enumerate(a text) -/
def IteS (z : Str) : It :=
  ⟨fun i _ => ∃ c, z.cps[i]? = some c, fun i H v H' => ∃ T c, v = .ref T ∧ H T = none ∧ H' = upd H T (.tup [.int (i : Nat), .str ⟨#[c]⟩]) ∧ z.cps[i]? = some c, fun i _ => z.cps.size = i⟩
theorem turn_enumS {P : Program} {w : World} {K : PySem.W.Frag} {elts : List Expr} {kk : Nat} {tpos : Pos} (z : Str) (t : Tok) (e it : Addr) :
    Turn P w K (.Tuple elts kk tpos) (IteS z) [e, it] e (fun i h => (∃ old, IsEnum h e it ((i : Nat) : Int) old) ∧ h.IsStrIter it (strIterType z) z t i ∧ e ≠ it) where
  mem := by simp
  obj := fun i h st b hb => by
    obtain ⟨⟨old, he⟩, ⟨o, ho, hc, hd⟩, _⟩ := st
    have e' : b = e ∨ b = it := by simpa using hb
    rcases e' with z | z
    · rw [z]; exact ⟨_, he, fun v q => nomatch q⟩
    · rw [z]; exact ⟨o, ho, fun v q => by rw [hd] at q; cases q⟩
  keep := fun i h h' st k => by
    obtain ⟨⟨old, he⟩, ⟨o, ho, r⟩, hne⟩ := st
    exact ⟨⟨old, k e (by simp) _ he⟩, ⟨o, k it (by simp) o ho, r⟩, hne⟩
  item := by
    intro X hP hw hK hc i pins s σ H E I hf st hg
    subst hP hw hK
    obtain ⟨⟨old, he⟩, hit, hne⟩ := st
    obtain ⟨c, hx⟩ := hg
    have hel : e < s.heap.objs.size := Heap.lt_size he
    have hil : it < s.heap.objs.size := by obtain ⟨_, q, _⟩ := hit; exact Heap.lt_size q
    have hh : X.A.in1.handled = none := I.ok.hd hc
    have hlt : i < z.cps.size := (Array.getElem?_eq_some_iff.mp hx).1
    refine wpAny_pyNext_enum_itemD (Draws.text hh it z t) he hit hlt hne (by simp [hne]) fun x1 h' tk hPx ho hit' hT hsz hk => ?_
    obtain ⟨c', u, hc', rfl⟩ := hPx
    rw [hx] at hc'
    cases hc'
    refine ⟨_, rfl, wpAny_letOwnedTupleGo_enum (s := { s with heap := h', toks := tk + 1 }) ho fun h'' he' sb => ?_⟩
    have hT2 : h''.get? s.heap.objs.size = some { cls := .type "tuple", data := .seq #[.int i tk, .str ⟨#[c]⟩ u] } := (sb.2 _ (Nat.ne_of_gt hel)).trans hT
    have new : ObjOk X.prog X.w (upd H s.heap.objs.size (.tup [.int (i : Nat), .str ⟨#[c]⟩])) h'' s.heap.objs.size (.tup [.int (i : Nat), .str ⟨#[c]⟩]) :=
      ⟨by show 2 ≤ sizeLine; decide, [.int i tk, .str ⟨#[c]⟩ u], .cons ⟨_, rfl⟩ (.cons ⟨_, rfl⟩ .nil), ⟨_, hT2, rfl, _, rfl⟩⟩
    have I1 : Inv X pins σ (upd H s.heap.objs.size (.tup [.int (i : Nat), .str ⟨#[c]⟩])) { s with heap := h'', toks := tk + 1 } :=
      I.turnedNew (ch := [e, it]) (fun b ob hb q => (sb.2 b (fun z => hb (by simp [z]))).trans (hk b ob (fun z => hb (by simp [z])) (fun z => hb (by simp [z])) q)) hf (Nat.le_refl _) new
    refine ⟨.ref s.heap.objs.size, _, I1, rfl, ⟨_, c, rfl, I.hok.fresh (Nat.le_refl _), rfl, hx⟩, ⟨⟨.str ⟨#[c]⟩ u, ?_⟩, ?_, hne⟩, fun b hb => ?_⟩
    · have e1 : ((i + 1 : Nat) : Int) = (i : Int) + 1 := by omega
      rw [e1]; exact he'
    · obtain ⟨o, ho2, r⟩ := hit'
      exact ⟨o, (sb.2 it (Ne.symm hne)).trans ho2, r⟩
    · have hb' : b < s.heap.objs.size := by
        have e' : b = e ∨ b = it := by simpa using hb
        rcases e' with z | z
        · rw [z]; exact hel
        · rw [z]; exact hil
      rw [upd_ne (Nat.ne_of_lt hb')]
      exact (hf b hb).1
  done := by
    intro X hP hw hK hc i pins s σ H E I hf st hg
    subst hP hw hK
    obtain ⟨⟨old, he⟩, hit, hne⟩ := st
    have hx : z.cps.size = i := hg
    obtain ⟨f0, f1, f2, f3, f4, f5⟩ := hf it (by simp)
    have hh : X.A.in1.handled = none := I.ok.hd hc
    subst hx
    exact wpAny_pyNext_enum_endD (Draws.text hh it z t) he hit fun h' eb => ⟨rfl, I.turned (t' := s.toks) (fun b o hb q => eb b o hb q) f0 f1 f3 f4 f5⟩
  self := fun A i s Q E st h => let ⟨⟨_, he⟩, _⟩ := st; wpAny_pyIter_enum he h
def iEnumS (ta : TA) : TI := fun σ H R => ta σ H fun vs H1 => ∃ z, vs = [.str z] ∧ R (IteS z) H1
theorem pi_enumS {X : Cx} {e : Expr} {ta : TA} {p pos tpos : Pos} {elts : List Expr} {kk : Nat} (hg : Gl X "enumerate") (hm : X.mg "enumerate" = none) (ha : PA X [e] ta) (hs : starEach [e] X.env = [(false, eval e X.env)] := by rfl) :
    PI X (.Tuple elts kk tpos) (.Call (.Name "enumerate" p) [e] [] pos) (iEnumS ta) := by
  refine ⟨fun pins s σ H R I h => ?_⟩
  refine Call_ (ld_blt I hg hm boot_enumerate (PyProof.Rows.callWith_type1 (thn (ha.run pos pins s σ H _ I h) fun us s1 ⟨vs, H1, I1, r1, q1⟩ => ?_) hs rfl))
  obtain ⟨z, ex, q⟩ := q1
  subst ex
  cases r1 with
  | cons r rr =>
    cases rr
    obtain ⟨t, rfl⟩ := r
    refine enum_begins1 (begins_text z t) trivial fun h' he hit hsz hk => wpAny_pyIter_enum he ?_
    have I2 : Inv X pins σ H1 { s1 with heap := h' } := I1.kept (t' := s1.toks) hk
    refine ⟨s1.heap.objs.size + 1, [s1.heap.objs.size + 1, s1.heap.objs.size], _, _, H1, rfl, I2, turn_enumS z t (s1.heap.objs.size + 1) s1.heap.objs.size, ⟨⟨.none, he⟩, ⟨_, hit, rfl, rfl⟩, Nat.succ_ne_self _⟩, fun b hb => ?_, q⟩
    have e' : b = s1.heap.objs.size + 1 ∨ b = s1.heap.objs.size := by simpa using hb
    have hle : s1.heap.objs.size ≤ b := by
      rcases e' with z | z
      · rw [z]; exact Nat.le_add_right _ _
      · rw [z]; exact Nat.le_refl _
    exact I1.fpOk hle (I1.hok.fresh hle)
theorem Wk.enumS {K : PySem.W.Frag} {Hf : Hp} {z : Str} : Wk K Hf (IteS z) (pairs (intR 0 (signs z).length) (signs z)) := fun i Hf' H' e1 e2 => by
  refine ⟨fun d hd => ?_, fun hl => ?_⟩
  · obtain ⟨da, db, g1, g2, rfl⟩ := pairs_at hd
    have hlt : i < (signs z).length := (List.getElem?_eq_some_iff.mp g2).1
    have ea : PyData.int (i : Nat) = da := by
      unfold intR at g1
      rw [List.getElem?_map, List.getElem?_range hlt] at g1
      have := Option.some.inj g1
      rw [← this]
      congr 1
      omega
    unfold signs at g2
    rw [List.getElem?_map] at g2
    obtain ⟨c, hc, rfl⟩ := Option.map_eq_some_iff.mp g2
    have hc2 : z.cps[i]? = some c := by rw [← Array.getElem?_toList]; exact hc
    refine ⟨⟨c, hc2⟩, fun x H2 hy => ?_⟩
    obtain ⟨T, c2, rfl, hT, rfl, f2⟩ := hy
    rw [hc2] at f2
    cases f2
    rw [← ea]
    exact pair_new e2 hT (.int _) (.str _)
  · unfold pairs intR signs at hl
    simp at hl
    show z.cps.size = i
    omega
def wEnumS (wr : WA) : WI := fun r k x => wr r (fun ys r1 => frzs ys r1 fun ds r2 => match ds with
  | [.str z] => k (pairs (intR 0 (signs z).length) (signs z)) r2
  | _ => False) x
theorem si_enumS {X : Cx} {W : WX} {a : Expr} {p pos tpos : Pos} {wr : WA} {elts : List Expr} {kk : Nat} (hm : X.mg "enumerate" = none) (ha : SA X W [a] wr) (hg : Gl X "enumerate" := by rfl) (hs : starEach [a] X.env = [(false, eval a X.env)] := by rfl) :
    SI X W (.Tuple elts kk tpos) (.Call (.Name "enumerate" p) [a] [] pos) (wEnumS wr) := by
  refine piI (pi_enumS hg hm ha hs) fun s H R q => ?_
  obtain ⟨am, Hf, r, k, x, S, hw, hk, hx⟩ := q
  refine ⟨am, Hf, r, _, x, S, hw, fun ys r1 am1 Hf1 H1 vs p1 S1 rs q => ?_, hx⟩
  obtain ⟨ds, r2, Hf2, p2, S2, ra, q⟩ := frzs_ok S1 rs q
  split at q
  · cases ra with
    | cons h t =>
      cases t
      cases h
      exact ⟨_, rfl, hk _ r2 am1 Hf2 H1 _ (p1.trans p2) S2 .enumS q⟩
  · exact q.elim
theorem mgv_of {P : Program} {w : World} {K : PySem.W.Frag} {mg : Str → Option Value} {base : Heap} {k : Nat} {m cn pv : Str} {f : Addr} {fd : FuncData} {ps : List Str} {G : FS} (h : MeF K mg cn m f) (F : FnGV P w K mg base k f fd ps pv G) (hb : BVp K fd ps pv) (hn : m ∉ flds cn) (hl : ps.length = 1 := by rfl) : MGV P w K mg base k m cn G := by
  obtain ⟨C, h1, h2, h3⟩ := h
  exact ⟨⟨C, h1, h2, f, fd, ps, pv, h3, F, hb, hl⟩, hn⟩
theorem mgvs_nil {P : Program} {w : World} {K : PySem.W.Frag} {mg : Str → Option Value} {base : Heap} {k : Nat} {m : Str} : ∀ p ∈ ([] : List (Str × FS)), MGV P w K mg base k m p.1 p.2 := fun _ h => by cases h
theorem mgvs_cons {P : Program} {w : World} {K : PySem.W.Frag} {mg : Str → Option Value} {base : Heap} {k : Nat} {m cn : Str} {G : FS} {tb : List (Str × FS)} (h : MGV P w K mg base k m cn G) (hr : ∀ p ∈ tb, MGV P w K mg base k m p.1 p.2) : ∀ p ∈ (cn, G) :: tb, MGV P w K mg base k m p.1 p.2 := fun p hp => by
  rcases List.mem_cons.mp hp with rfl | hp
  · exact h
  · exact hr p hp
end Dl

/-! the data layer, part EF: x.f.pop(), x.f == [], a call of an instance -/
namespace PySem.W
open PySem PySem.Spec PySem.Calls PyProof.Rows
end PySem.W
namespace Dl
open PySem
open PySem.Spec
open PyProof.Rows
open L2
open Evl (Ex)
section
variable {X : Cx} {W : WX} {pos fpos npos apos lpos : Pos} {cns : List Str} {f x : Str} {i j : Nat}
end
/-! ### y(e, ..), y an instance -/
section
variable {X : Cx} {W : WX} {k n : Nat} {x cn : Str} {p pos : Pos} {e : Expr} {es : List Expr} {wr : WA} {G : FS}
end
end Dl

/-! plain laws, part 0: how a data program is read -/
namespace Dl
open PySem
open PySem.Spec
open PyProof.Rows
open L2
section
variable {r : Env} {sl : List (Option R)} {st : Sto} {k : KE} {x : XQ} {kl : List D → Env → Prop} {kt : Bool → Env → Prop} {ka : List R → Env → Prop} {p : Post} {i n : Nat} {d : D} {y : R} {ds : List D} {ys : List R}
@[simp ↓] theorem e_var0 : wVar 0 ⟨some y :: sl, st⟩ k x = k y ⟨some y :: sl, st⟩ := Eq.trans rfl rfl
@[simp ↓] theorem e_var1 {y0 : Option R} : wVar 1 ⟨y0 :: some y :: sl, st⟩ k x = k y ⟨y0 :: some y :: sl, st⟩ := Eq.trans rfl rfl
@[simp ↓] theorem e_var2 {y0 y1 : Option R} : wVar 2 ⟨y0 :: y1 :: some y :: sl, st⟩ k x = k y ⟨y0 :: y1 :: some y :: sl, st⟩ := Eq.trans rfl rfl
@[simp ↓] theorem e_var3 {y0 y1 y2 : Option R} : wVar 3 ⟨y0 :: y1 :: y2 :: some y :: sl, st⟩ k x = k y ⟨y0 :: y1 :: y2 :: some y :: sl, st⟩ := Eq.trans rfl rfl
@[simp ↓] theorem e_var4 {y0 y1 y2 y3 : Option R} : wVar 4 ⟨y0 :: y1 :: y2 :: y3 :: some y :: sl, st⟩ k x = k y ⟨y0 :: y1 :: y2 :: y3 :: some y :: sl, st⟩ := Eq.trans rfl rfl
@[simp ↓] theorem e_var5 {y0 y1 y2 y3 y4 : Option R} : wVar 5 ⟨y0 :: y1 :: y2 :: y3 :: y4 :: some y :: sl, st⟩ k x = k y ⟨y0 :: y1 :: y2 :: y3 :: y4 :: some y :: sl, st⟩ := Eq.trans rfl rfl
@[simp ↓] theorem e_var6 {y0 y1 y2 y3 y4 y5 : Option R} : wVar 6 ⟨y0 :: y1 :: y2 :: y3 :: y4 :: y5 :: some y :: sl, st⟩ k x = k y ⟨y0 :: y1 :: y2 :: y3 :: y4 :: y5 :: some y :: sl, st⟩ := Eq.trans rfl rfl
@[simp ↓] theorem e_var7 {y0 y1 y2 y3 y4 y5 y6 : Option R} : wVar 7 ⟨y0 :: y1 :: y2 :: y3 :: y4 :: y5 :: y6 :: some y :: sl, st⟩ k x = k y ⟨y0 :: y1 :: y2 :: y3 :: y4 :: y5 :: y6 :: some y :: sl, st⟩ := Eq.trans rfl rfl
@[simp ↓] theorem e_var8 {y0 y1 y2 y3 y4 y5 y6 y7 : Option R} : wVar 8 ⟨y0 :: y1 :: y2 :: y3 :: y4 :: y5 :: y6 :: y7 :: some y :: sl, st⟩ k x = k y ⟨y0 :: y1 :: y2 :: y3 :: y4 :: y5 :: y6 :: y7 :: some y :: sl, st⟩ := Eq.trans rfl rfl
@[simp ↓] theorem e_var9 {y0 y1 y2 y3 y4 y5 y6 y7 y8 : Option R} : wVar 9 ⟨y0 :: y1 :: y2 :: y3 :: y4 :: y5 :: y6 :: y7 :: y8 :: some y :: sl, st⟩ k x = k y ⟨y0 :: y1 :: y2 :: y3 :: y4 :: y5 :: y6 :: y7 :: y8 :: some y :: sl, st⟩ := Eq.trans rfl rfl
@[simp ↓] theorem e_var10 {y0 y1 y2 y3 y4 y5 y6 y7 y8 y9 : Option R} : wVar 10 ⟨y0 :: y1 :: y2 :: y3 :: y4 :: y5 :: y6 :: y7 :: y8 :: y9 :: some y :: sl, st⟩ k x = k y ⟨y0 :: y1 :: y2 :: y3 :: y4 :: y5 :: y6 :: y7 :: y8 :: y9 :: some y :: sl, st⟩ := Eq.trans rfl rfl
@[simp ↓] theorem e_var11 {y0 y1 y2 y3 y4 y5 y6 y7 y8 y9 y10 : Option R} : wVar 11 ⟨y0 :: y1 :: y2 :: y3 :: y4 :: y5 :: y6 :: y7 :: y8 :: y9 :: y10 :: some y :: sl, st⟩ k x = k y ⟨y0 :: y1 :: y2 :: y3 :: y4 :: y5 :: y6 :: y7 :: y8 :: y9 :: y10 :: some y :: sl, st⟩ := Eq.trans rfl rfl
@[simp ↓] theorem e_var12 {y0 y1 y2 y3 y4 y5 y6 y7 y8 y9 y10 y11 : Option R} : wVar 12 ⟨y0 :: y1 :: y2 :: y3 :: y4 :: y5 :: y6 :: y7 :: y8 :: y9 :: y10 :: y11 :: some y :: sl, st⟩ k x = k y ⟨y0 :: y1 :: y2 :: y3 :: y4 :: y5 :: y6 :: y7 :: y8 :: y9 :: y10 :: y11 :: some y :: sl, st⟩ := Eq.trans rfl rfl
@[simp ↓] theorem e_var13 {y0 y1 y2 y3 y4 y5 y6 y7 y8 y9 y10 y11 y12 : Option R} : wVar 13 ⟨y0 :: y1 :: y2 :: y3 :: y4 :: y5 :: y6 :: y7 :: y8 :: y9 :: y10 :: y11 :: y12 :: some y :: sl, st⟩ k x = k y ⟨y0 :: y1 :: y2 :: y3 :: y4 :: y5 :: y6 :: y7 :: y8 :: y9 :: y10 :: y11 :: y12 :: some y :: sl, st⟩ := Eq.trans rfl rfl
@[simp ↓] theorem e_var14 {y0 y1 y2 y3 y4 y5 y6 y7 y8 y9 y10 y11 y12 y13 : Option R} : wVar 14 ⟨y0 :: y1 :: y2 :: y3 :: y4 :: y5 :: y6 :: y7 :: y8 :: y9 :: y10 :: y11 :: y12 :: y13 :: some y :: sl, st⟩ k x = k y ⟨y0 :: y1 :: y2 :: y3 :: y4 :: y5 :: y6 :: y7 :: y8 :: y9 :: y10 :: y11 :: y12 :: y13 :: some y :: sl, st⟩ := Eq.trans rfl rfl
@[simp ↓] theorem e_var15 {y0 y1 y2 y3 y4 y5 y6 y7 y8 y9 y10 y11 y12 y13 y14 : Option R} : wVar 15 ⟨y0 :: y1 :: y2 :: y3 :: y4 :: y5 :: y6 :: y7 :: y8 :: y9 :: y10 :: y11 :: y12 :: y13 :: y14 :: some y :: sl, st⟩ k x = k y ⟨y0 :: y1 :: y2 :: y3 :: y4 :: y5 :: y6 :: y7 :: y8 :: y9 :: y10 :: y11 :: y12 :: y13 :: y14 :: some y :: sl, st⟩ := Eq.trans rfl rfl
@[simp ↓] theorem e_var16 {y0 y1 y2 y3 y4 y5 y6 y7 y8 y9 y10 y11 y12 y13 y14 y15 : Option R} : wVar 16 ⟨y0 :: y1 :: y2 :: y3 :: y4 :: y5 :: y6 :: y7 :: y8 :: y9 :: y10 :: y11 :: y12 :: y13 :: y14 :: y15 :: some y :: sl, st⟩ k x = k y ⟨y0 :: y1 :: y2 :: y3 :: y4 :: y5 :: y6 :: y7 :: y8 :: y9 :: y10 :: y11 :: y12 :: y13 :: y14 :: y15 :: some y :: sl, st⟩ := Eq.trans rfl rfl
@[simp ↓] theorem e_var17 {y0 y1 y2 y3 y4 y5 y6 y7 y8 y9 y10 y11 y12 y13 y14 y15 y16 : Option R} : wVar 17 ⟨y0 :: y1 :: y2 :: y3 :: y4 :: y5 :: y6 :: y7 :: y8 :: y9 :: y10 :: y11 :: y12 :: y13 :: y14 :: y15 :: y16 :: some y :: sl, st⟩ k x = k y ⟨y0 :: y1 :: y2 :: y3 :: y4 :: y5 :: y6 :: y7 :: y8 :: y9 :: y10 :: y11 :: y12 :: y13 :: y14 :: y15 :: y16 :: some y :: sl, st⟩ := Eq.trans rfl rfl
@[simp ↓] theorem e_var18 {y0 y1 y2 y3 y4 y5 y6 y7 y8 y9 y10 y11 y12 y13 y14 y15 y16 y17 : Option R} : wVar 18 ⟨y0 :: y1 :: y2 :: y3 :: y4 :: y5 :: y6 :: y7 :: y8 :: y9 :: y10 :: y11 :: y12 :: y13 :: y14 :: y15 :: y16 :: y17 :: some y :: sl, st⟩ k x = k y ⟨y0 :: y1 :: y2 :: y3 :: y4 :: y5 :: y6 :: y7 :: y8 :: y9 :: y10 :: y11 :: y12 :: y13 :: y14 :: y15 :: y16 :: y17 :: some y :: sl, st⟩ := Eq.trans rfl rfl
@[simp ↓] theorem e_var19 {y0 y1 y2 y3 y4 y5 y6 y7 y8 y9 y10 y11 y12 y13 y14 y15 y16 y17 y18 : Option R} : wVar 19 ⟨y0 :: y1 :: y2 :: y3 :: y4 :: y5 :: y6 :: y7 :: y8 :: y9 :: y10 :: y11 :: y12 :: y13 :: y14 :: y15 :: y16 :: y17 :: y18 :: some y :: sl, st⟩ k x = k y ⟨y0 :: y1 :: y2 :: y3 :: y4 :: y5 :: y6 :: y7 :: y8 :: y9 :: y10 :: y11 :: y12 :: y13 :: y14 :: y15 :: y16 :: y17 :: y18 :: some y :: sl, st⟩ := Eq.trans rfl rfl
@[simp ↓] theorem e_var20 {y0 y1 y2 y3 y4 y5 y6 y7 y8 y9 y10 y11 y12 y13 y14 y15 y16 y17 y18 y19 : Option R} : wVar 20 ⟨y0 :: y1 :: y2 :: y3 :: y4 :: y5 :: y6 :: y7 :: y8 :: y9 :: y10 :: y11 :: y12 :: y13 :: y14 :: y15 :: y16 :: y17 :: y18 :: y19 :: some y :: sl, st⟩ k x = k y ⟨y0 :: y1 :: y2 :: y3 :: y4 :: y5 :: y6 :: y7 :: y8 :: y9 :: y10 :: y11 :: y12 :: y13 :: y14 :: y15 :: y16 :: y17 :: y18 :: y19 :: some y :: sl, st⟩ := Eq.trans rfl rfl
@[simp ↓] theorem e_var21 {y0 y1 y2 y3 y4 y5 y6 y7 y8 y9 y10 y11 y12 y13 y14 y15 y16 y17 y18 y19 y20 : Option R} : wVar 21 ⟨y0 :: y1 :: y2 :: y3 :: y4 :: y5 :: y6 :: y7 :: y8 :: y9 :: y10 :: y11 :: y12 :: y13 :: y14 :: y15 :: y16 :: y17 :: y18 :: y19 :: y20 :: some y :: sl, st⟩ k x = k y ⟨y0 :: y1 :: y2 :: y3 :: y4 :: y5 :: y6 :: y7 :: y8 :: y9 :: y10 :: y11 :: y12 :: y13 :: y14 :: y15 :: y16 :: y17 :: y18 :: y19 :: y20 :: some y :: sl, st⟩ := Eq.trans rfl rfl
@[simp ↓] theorem e_var22 {y0 y1 y2 y3 y4 y5 y6 y7 y8 y9 y10 y11 y12 y13 y14 y15 y16 y17 y18 y19 y20 y21 : Option R} : wVar 22 ⟨y0 :: y1 :: y2 :: y3 :: y4 :: y5 :: y6 :: y7 :: y8 :: y9 :: y10 :: y11 :: y12 :: y13 :: y14 :: y15 :: y16 :: y17 :: y18 :: y19 :: y20 :: y21 :: some y :: sl, st⟩ k x = k y ⟨y0 :: y1 :: y2 :: y3 :: y4 :: y5 :: y6 :: y7 :: y8 :: y9 :: y10 :: y11 :: y12 :: y13 :: y14 :: y15 :: y16 :: y17 :: y18 :: y19 :: y20 :: y21 :: some y :: sl, st⟩ := Eq.trans rfl rfl
@[simp ↓] theorem e_var23 {y0 y1 y2 y3 y4 y5 y6 y7 y8 y9 y10 y11 y12 y13 y14 y15 y16 y17 y18 y19 y20 y21 y22 : Option R} : wVar 23 ⟨y0 :: y1 :: y2 :: y3 :: y4 :: y5 :: y6 :: y7 :: y8 :: y9 :: y10 :: y11 :: y12 :: y13 :: y14 :: y15 :: y16 :: y17 :: y18 :: y19 :: y20 :: y21 :: y22 :: some y :: sl, st⟩ k x = k y ⟨y0 :: y1 :: y2 :: y3 :: y4 :: y5 :: y6 :: y7 :: y8 :: y9 :: y10 :: y11 :: y12 :: y13 :: y14 :: y15 :: y16 :: y17 :: y18 :: y19 :: y20 :: y21 :: y22 :: some y :: sl, st⟩ := Eq.trans rfl rfl
@[simp ↓] theorem e_C : wC d ⟨sl, st⟩ k x = k (.d d) ⟨sl, st⟩ := Eq.trans rfl rfl
@[simp ↓] theorem e_O {b : Ob} : wO b ⟨sl, st⟩ k x = k (.o b) ⟨sl, st⟩ := Eq.trans rfl rfl
@[simp ↓] theorem e_dref_d {k : D → Prop} : dref (.d d) r k = k d := Eq.trans rfl rfl
@[simp ↓] theorem e_dref_l {k : D → Prop} : dref (.l n) r k = lstAt r n fun ds => k (.list ds) := Eq.trans rfl rfl
@[simp ↓] theorem e_frz_d {k : D → Env → Prop} : frz (.d d) r k = k d r := Eq.trans rfl rfl
@[simp ↓] theorem e_frz_l {k : D → Env → Prop} : frz (.l n) r k = lstAt r n fun ds => k (.list ds) (r.kill n (.list ds)) := Eq.trans rfl rfl
theorem e_lstAt {k : List D → Prop} (h : st[n]? = some (some ds)) : lstAt ⟨sl, st⟩ n k = k ds := by
  unfold lstAt
  rw [h]
@[simp ↓] theorem e_drefs0 {k : List D → Prop} : drefs [] r k = k [] := Eq.trans rfl rfl
@[simp ↓] theorem e_drefs1 {k : List D → Prop} : drefs (y :: ys) r k = dref y r fun d => drefs ys r fun ds => k (d :: ds) := Eq.trans rfl rfl
@[simp ↓] theorem e_frzs0 {k : List D → Env → Prop} : frzs [] r k = k [] r := Eq.trans rfl rfl
@[simp ↓] theorem e_frzs1 {k : List D → Env → Prop} : frzs (y :: ys) r k = frz y r fun d r1 => frzs ys r1 fun ds r2 => k (d :: ds) r2 := Eq.trans rfl rfl
@[simp ↓] theorem e_put : Env.put ⟨sl, st⟩ i y = ⟨sl.set i (some y), st⟩ := Eq.trans rfl rfl
@[simp ↓] theorem e_kill : Env.kill ⟨sl, st⟩ n d = ⟨sl.map fun x => x.map (R.kill n d), st.set n none⟩ := Eq.trans rfl rfl
@[simp ↓] theorem e_killd {e : D} : R.kill n d (.d e) = .d e := Eq.trans rfl rfl
@[simp ↓] theorem e_killo {b : Ob} : R.kill n d (.o b) = .o b := Eq.trans rfl rfl
@[simp ↓] theorem e_killl {m : Nat} : R.kill n d (.l m) = if m = n then .d d else .l m := Eq.trans rfl rfl
@[simp ↓] theorem e_op2 {g : G2} {wa wb : WE} : wOp2 g wa wb ⟨sl, st⟩ k x = wa ⟨sl, st⟩ (fun a r1 => wb r1 (fun b r2 => dref a r2 fun da => dref b r2 fun db => g da db fun d => k (.d d) r2) x) x := Eq.trans rfl rfl
@[simp ↓] theorem e_op1 {g : G1} {wa : WE} : wOp1 g wa ⟨sl, st⟩ k x = wa ⟨sl, st⟩ (fun a r1 => dref a r1 fun da => g da fun d => k (.d d) r1) x := Eq.trans rfl rfl
@[simp ↓] theorem e_cmp {g : GB} {wa wb : WE} : wCmp g wa wb ⟨sl, st⟩ k x = wa ⟨sl, st⟩ (fun a r1 => wb r1 (fun b r2 => dref a r2 fun da => dref b r2 fun db => g da db fun d => k (.d (.bool d)) r2) x) x := Eq.trans rfl rfl
@[simp ↓] theorem e_cmpT {g : GB} {wa wb : WE} : wCmpT g wa wb ⟨sl, st⟩ kt x = wa ⟨sl, st⟩ (fun a r1 => wb r1 (fun b r2 => dref a r2 fun da => dref b r2 fun db => g da db fun d => kt d r2) x) x := Eq.trans rfl rfl
@[simp ↓] theorem e_chainT {g g' : GB} {wa wb wc : WE} : wChainT g g' wa wb wc ⟨sl, st⟩ kt x = wa ⟨sl, st⟩ (fun a r1 => wb r1 (fun b r2 => dref a r2 fun da => dref b r2 fun db => g da db fun d => if d = true then wc r2 (fun c r3 => dref b r3 fun db => dref c r3 fun dc => g' db dc fun d => kt d r3) x else kt false r2) x) x := by
  unfold wChainT
  congr 1; funext a r1; congr 1; funext b r2; congr 1; funext da; congr 1; funext db; congr 1; funext d; cases d <;> rfl
@[simp ↓] theorem e_chain {g g' : GB} {wa wb wc : WE} : wChain g g' wa wb wc ⟨sl, st⟩ k x = wChainT g g' wa wb wc ⟨sl, st⟩ (fun b r1 => k (.d (.bool b)) r1) x := Eq.trans rfl rfl
@[simp ↓] theorem e_truN : truD .none = some false := Eq.trans rfl rfl
@[simp ↓] theorem e_truB {b : Bool} : truD (.bool b) = some b := Eq.trans rfl rfl
@[simp ↓] theorem e_truI {j : Int} : truD (.int j) = some (j != 0) := Eq.trans rfl rfl
@[simp ↓] theorem e_truL : truD (.list ds) = some (!ds.isEmpty) := Eq.trans rfl rfl
@[simp ↓] theorem e_truT : truD (.tuple ds) = some (!ds.isEmpty) := Eq.trans rfl rfl
@[simp ↓] theorem e_tru {w : WE} : wTru w ⟨sl, st⟩ kt x = w ⟨sl, st⟩ (fun y r1 => dref y r1 fun d => match truD d with
  | some b => kt b r1
  | none => False) x := Eq.trans rfl rfl
@[simp ↓] theorem e_notT {t : WT} : wNotT t ⟨sl, st⟩ kt x = t ⟨sl, st⟩ (fun b r1 => kt (!b) r1) x := Eq.trans rfl rfl
@[simp ↓] theorem e_andT {ta tb : WT} : wAndT ta tb ⟨sl, st⟩ kt x = ta ⟨sl, st⟩ (fun b r1 => if b = true then tb r1 kt x else kt false r1) x := by
  unfold wAndT
  congr 1; funext b r1; cases b <;> rfl
@[simp ↓] theorem e_orT {ta tb : WT} : wOrT ta tb ⟨sl, st⟩ kt x = ta ⟨sl, st⟩ (fun b r1 => if b = true then kt true r1 else tb r1 kt x) x := by
  unfold wOrT
  congr 1; funext b r1; cases b <;> rfl
@[simp ↓] theorem e_isB {b : Bool} {k : Bool → Prop} : isB (.d (.bool b)) k = k b := Eq.trans rfl rfl
@[simp ↓] theorem e_andV {wa wb : WE} : wAndV wa wb ⟨sl, st⟩ k x = wa ⟨sl, st⟩ (fun y r1 => isB y fun b => if b = true then wb r1 k x else k (.d (.bool false)) r1) x := by
  unfold wAndV
  congr 1; funext y r1; congr 1; funext b; cases b <;> rfl
@[simp ↓] theorem e_orV {wa wb : WE} : wOrV wa wb ⟨sl, st⟩ k x = wa ⟨sl, st⟩ (fun y r1 => isB y fun b => if b = true then k (.d (.bool true)) r1 else wb r1 k x) x := by
  unfold wOrV
  congr 1; funext y r1; congr 1; funext b; cases b <;> rfl
@[simp ↓] theorem e_notV {wa : WE} : wNotV wa ⟨sl, st⟩ k x = wa ⟨sl, st⟩ (fun y r1 => isB y fun b => k (.d (.bool (!b))) r1) x := Eq.trans rfl rfl
@[simp ↓] theorem e_if {t : WT} {wa wb : WE} : wIf t wa wb ⟨sl, st⟩ k x = t ⟨sl, st⟩ (fun b r1 => if b = true then wa r1 k x else wb r1 k x) x := by
  unfold wIf
  congr 1; funext b r1; cases b <;> rfl
@[simp ↓] theorem e_nil : wNil ⟨sl, st⟩ ka x = ka [] ⟨sl, st⟩ := Eq.trans rfl rfl
@[simp ↓] theorem e_cons {wa : WE} {wr : WA} : wCons wa wr ⟨sl, st⟩ ka x = wa ⟨sl, st⟩ (fun y r1 => wr r1 (fun ys r2 => ka (y :: ys) r2) x) x := Eq.trans rfl rfl
@[simp ↓] theorem e_dat {w : WL} : wDat w ⟨sl, st⟩ k x = w ⟨sl, st⟩ (fun ds r1 => k (.d (.list ds)) r1) x := Eq.trans rfl rfl
@[simp ↓] theorem e_loc {w : WL} : wLoc w ⟨sl, st⟩ k x = w ⟨sl, st⟩ (fun ds r1 => k (.l r1.st.length) ⟨r1.sl, r1.st ++ [some ds]⟩) x := Eq.trans rfl rfl
@[simp ↓] theorem e_tup {ws : WA} : wTup ws ⟨sl, st⟩ k x = ws ⟨sl, st⟩ (fun ys r1 => ys.length ≤ sizeLine ∧ frzs ys r1 fun ds r2 => k (.d (.tuple ds)) r2) x := Eq.trans rfl rfl
@[simp ↓] theorem e_lst {ws : WA} : wLst ws ⟨sl, st⟩ kl x = ws ⟨sl, st⟩ (fun ys r1 => ys.length ≤ sizeLine ∧ frzs ys r1 fun ds r2 => kl ds r2) x := Eq.trans rfl rfl
@[simp ↓] theorem e_opL {g : GL2} {wa wb : WE} : wOpL g wa wb ⟨sl, st⟩ kl x = wa ⟨sl, st⟩ (fun a r1 => wb r1 (fun b r2 => dref a r2 fun da => dref b r2 fun db => g da db fun d => kl d r2) x) x := Eq.trans rfl rfl
@[simp ↓] theorem e_B {g : GA} {ws : WA} : wB g ws ⟨sl, st⟩ k x = ws ⟨sl, st⟩ (fun ys r1 => drefs ys r1 fun ds => g ds fun d => k (.d d) r1) x := Eq.trans rfl rfl
@[simp ↓] theorem e_BL {g : GLA} {ws : WA} : wBL g ws ⟨sl, st⟩ kl x = ws ⟨sl, st⟩ (fun ys r1 => drefs ys r1 fun ds => g ds fun d => kl d r1) x := Eq.trans rfl rfl
@[simp ↓] theorem e_no {ko : Option Int → Env → Prop} : wNo ⟨sl, st⟩ ko x = ko none ⟨sl, st⟩ := Eq.trans rfl rfl
@[simp ↓] theorem e_part {we : WE} {ko : Option Int → Env → Prop} : wPart we ⟨sl, st⟩ ko x = we ⟨sl, st⟩ (fun y r1 => isI y fun i => ko (some i) r1) x := Eq.trans rfl rfl
@[simp ↓] theorem e_dic1 {wk wv : WE} : wDic1 wk wv ⟨sl, st⟩ k x = wk ⟨sl, st⟩ (fun a r1 => wv r1 (fun b r2 => keyD a fun c => frz b r2 fun d r3 => k (.d (.dict [(kD c, d)])) r3) x) x := Eq.trans rfl rfl
@[simp ↓] theorem e_keyS {z : Str} {k : Key → Prop} : keyD (.d (.str z)) k = k (.inr z) := Eq.trans rfl rfl
@[simp ↓] theorem e_keyI {j : Int} {k : Key → Prop} : keyD (.d (.int j)) k = k (.inl j) := Eq.trans rfl rfl
@[simp ↓] theorem e_isI {j : Int} {k : Int → Prop} : isI (.d (.int j)) k = k j := Eq.trans rfl rfl
@[simp ↓] theorem e_sl {g : GS} {wa : WE} {wl wh : WO} : wSl g wa wl wh ⟨sl, st⟩ k x = wa ⟨sl, st⟩ (fun a r1 => wl r1 (fun lo r2 => wh r2 (fun hi r3 => dref a r3 fun da => g da lo hi fun d => k (.d d) r3) x) x) x := Eq.trans rfl rfl
@[simp ↓] theorem e_slL {g : GSL} {wa : WE} {wl wh : WO} : wSlL g wa wl wh ⟨sl, st⟩ kl x = wa ⟨sl, st⟩ (fun a r1 => wl r1 (fun lo r2 => wh r2 (fun hi r3 => dref a r3 fun da => g da lo hi fun d => kl d r3) x) x) x := Eq.trans rfl rfl
@[simp ↓] theorem e_tyS {z : Str} {T : String} : tyD T (.str z) = (T = "str") := Eq.trans rfl rfl
@[simp ↓] theorem e_tyL {T : String} : tyD T (.list ds) = (T = "list") := Eq.trans rfl rfl
@[simp ↓] theorem e_M {T : String} {g : GM} {wa : WE} {ws : WA} : wM T g wa ws ⟨sl, st⟩ k x = wa ⟨sl, st⟩ (fun a r1 => dref a r1 fun da => tyD T da ∧ ws r1 (fun ys r2 => dref a r2 fun da => drefs ys r2 fun ds => g da ds fun d => k (.d d) r2) x) x := Eq.trans rfl rfl
@[simp ↓] theorem e_ML {T : String} {g : GML} {wa : WE} {ws : WA} : wML T g wa ws ⟨sl, st⟩ kl x = wa ⟨sl, st⟩ (fun a r1 => dref a r1 fun da => tyD T da ∧ ws r1 (fun ys r2 => dref a r2 fun da => drefs ys r2 fun ds => g da ds fun d => kl d r2) x) x := Eq.trans rfl rfl
@[simp ↓] theorem e_M0 {T : String} {g : GM} {wa : WE} : wM0 T g wa ⟨sl, st⟩ k x = wa ⟨sl, st⟩ (fun a r1 => dref a r1 fun da => tyD T da ∧ g da [] fun d => k (.d d) r1) x := Eq.trans rfl rfl
@[simp ↓] theorem e_isL {k : Nat → Prop} : isL (.l n) k = k n := Eq.trans rfl rfl
@[simp ↓] theorem e_U {g : GU} {wa : WE} {ws : WA} : wU g wa ws ⟨sl, st⟩ k x = wa ⟨sl, st⟩ (fun a r1 => isL a fun n => lstAt r1 n fun _ => ws r1 (fun ys r2 => frzs ys r2 fun ds r3 => lstAt r3 n fun cur => g cur ds fun d new => k (.d d) (stPut r3 n new)) x) x := Eq.trans rfl rfl
@[simp ↓] theorem e_U0 {g : GU} {wa : WE} : wU0 g wa ⟨sl, st⟩ k x = wa ⟨sl, st⟩ (fun a r1 => isL a fun n => lstAt r1 n fun cur => g cur [] fun d new => k (.d d) (stPut r1 n new)) x := Eq.trans rfl rfl
@[simp ↓] theorem e_stPut : stPut ⟨sl, st⟩ n ds = ⟨sl, st.set n (some ds)⟩ := Eq.trans rfl rfl
@[simp ↓] theorem e_isScr {ns : List Int} {k : List Int → Prop} : isScr (.o (.scr ns)) k = k ns := Eq.trans rfl rfl
@[simp ↓] theorem e_scrLen {we : WE} : wScrLen we ⟨sl, st⟩ k x = we ⟨sl, st⟩ (fun y r1 => isScr y fun ns => k (.d (.int ns.length)) r1) x := Eq.trans rfl rfl
@[simp ↓] theorem e_scrAt {wa wb : WE} : wScrAt wa wb ⟨sl, st⟩ k x = wa ⟨sl, st⟩ (fun y r1 => wb r1 (fun z r2 => isScr y fun ns => isI z fun i => match atI ns i with
  | some n => k (.d (.int n)) r2
  | none => False) x) x := Eq.trans rfl rfl
/-! statements -/
@[simp ↓] theorem e_next : wNext ⟨sl, st⟩ p = p.nx ⟨sl, st⟩ := Eq.trans rfl rfl
@[simp ↓] theorem e_seq {a b : WS} : wSeq a b ⟨sl, st⟩ p = a ⟨sl, st⟩ { p with nx := fun r1 => b r1 p } := Eq.trans rfl rfl
@[simp ↓] theorem e_drop {w : WE} : wDrop w ⟨sl, st⟩ p = w ⟨sl, st⟩ (fun _ r1 => p.nx r1) p.ex := Eq.trans rfl rfl
@[simp ↓] theorem e_ret {w : WE} : wRet w ⟨sl, st⟩ p = w ⟨sl, st⟩ p.rt p.ex := Eq.trans rfl rfl
@[simp ↓] theorem e_retN : wRetN ⟨sl, st⟩ p = p.rt (.d .none) ⟨sl, st⟩ := Eq.trans rfl rfl
@[simp ↓] theorem e_brk : wBrk ⟨sl, st⟩ p = p.bk ⟨sl, st⟩ := Eq.trans rfl rfl
@[simp ↓] theorem e_cnt : wCnt ⟨sl, st⟩ p = p.ct ⟨sl, st⟩ := Eq.trans rfl rfl
@[simp ↓] theorem e_ifS {t : WT} {a b : WS} : wIfS t a b ⟨sl, st⟩ p = t ⟨sl, st⟩ (fun c r1 => if c = true then a r1 p else b r1 p) p.ex := by
  unfold wIfS
  congr 1; funext b r1; cases b <;> rfl
@[simp ↓] theorem e_set {w : WE} : wSet i w ⟨sl, st⟩ p = w ⟨sl, st⟩ (fun y r1 => p.nx (r1.put i y)) p.ex := Eq.trans rfl rfl
@[simp ↓] theorem e_par {is : List Nat} {ws : WA} : wPar is ws ⟨sl, st⟩ p = ws ⟨sl, st⟩ (fun ys r1 => putMany is ys r1 p.nx) p.ex := Eq.trans rfl rfl
@[simp ↓] theorem e_pm0 {k : Env → Prop} : putMany [] [] r k = k r := Eq.trans rfl rfl
@[simp ↓] theorem e_pm1 {is : List Nat} {k : Env → Prop} : putMany (i :: is) (y :: ys) r k = putMany is ys (r.put i y) k := Eq.trans rfl rfl
@[simp ↓] theorem e_asg {k : Env → Prop} : asgT (.nm i) d r k = k (r.put i (.d d)) := Eq.trans rfl rfl
@[simp ↓] theorem e_asgT {is : List Nat} {k : Env → Prop} : asgT (.tp is) (.tuple ds) r k = putMany is (ds.map R.d) r k := Eq.trans rfl rfl
@[simp ↓] theorem e_unp {is : List Nat} {we : WE} : wUnp is we ⟨sl, st⟩ p = we ⟨sl, st⟩ (fun y r1 => match y with
  | .d d => asgT (.tp is) d r1 p.nx
  | _ => False) p.ex := Eq.trans rfl rfl
@[simp ↓] theorem e_unpL {is : List Nat} {we : WE} : wUnpL is we ⟨sl, st⟩ p = we ⟨sl, st⟩ (fun y r1 => dref y r1 fun d => match d with
  | .list ds => putMany is (ds.map R.d) r1 p.nx
  | _ => False) p.ex := Eq.trans rfl rfl
@[simp ↓] theorem e_aug {g : G2} {we : WE} : wAug g i we ⟨sl, st⟩ p = wVar i ⟨sl, st⟩ (fun a _ => we ⟨sl, st⟩ (fun b r1 => dref a r1 fun da => dref b r1 fun db => g da db fun d => p.nx (r1.put i (.d d))) p.ex) p.ex := Eq.trans rfl rfl
@[simp ↓] theorem e_setI {wo wi we : WE} : wSetI wo wi we ⟨sl, st⟩ p = we ⟨sl, st⟩ (fun y r1 => wo r1 (fun o r2 => wi r2 (fun i r3 => isL o fun n => isI i fun z => frz y r3 fun d r4 => lstAt r4 n fun cur => match ixN cur.length z with
  | some j => p.nx (stPut r4 n (cur.set j d))
  | none => False) p.ex) p.ex) p.ex := Eq.trans rfl rfl
@[simp ↓] theorem e_raise {cn : Str} : wRaise cn ⟨sl, st⟩ p = p.ex ⟨cn, []⟩ ⟨sl, st⟩ := Eq.trans rfl rfl
@[simp ↓] theorem e_for {t : Tg} {wi : WI} {wb : WS} : wFor t wi wb ⟨sl, st⟩ p = wi ⟨sl, st⟩ (fun ds r1 => loopF t wb p ds r1) p.ex := Eq.trans rfl rfl
@[simp ↓] theorem e_it {we : WE} : wIt we ⟨sl, st⟩ kl x = we ⟨sl, st⟩ (fun y r1 => frz y r1 fun d r2 => itemsD d fun ds => kl ds r2) x := Eq.trans rfl rfl
@[simp ↓] theorem e_itL {k : List D → Prop} : itemsD (.list ds) k = k ds := Eq.trans rfl rfl
@[simp ↓] theorem e_itT {k : List D → Prop} : itemsD (.tuple ds) k = k ds := Eq.trans rfl rfl
@[simp ↓] theorem e_itS {z : Str} {k : List D → Prop} : itemsD (.str z) k = k (signs z) := Eq.trans rfl rfl
@[simp ↓] theorem e_rng {g : List D → (List D → Prop) → Prop} {wr : WA} : wRng g wr ⟨sl, st⟩ kl x = wr ⟨sl, st⟩ (fun ys r1 => drefs ys r1 fun ds => g ds fun is => kl is r1) x := Eq.trans rfl rfl
@[simp ↓] theorem e_rng1 {j : Int} {k : List D → Prop} : rng1 [.int j] k = (-(2 ^ 62) ≤ j ∧ j < 2 ^ 62 ∧ k (intR 0 j.toNat)) := Eq.trans rfl rfl
@[simp ↓] theorem e_rng2 {i j : Int} {k : List D → Prop} : rng2 [.int i, .int j] k = ((-(2 ^ 62) ≤ i ∧ i < 2 ^ 62 ∧ -(2 ^ 62) ≤ j ∧ j < 2 ^ 62) ∧ k (intR i (j - i).toNat)) := Eq.trans rfl rfl
@[simp ↓] theorem e_zip {wr : WA} : wZip wr ⟨sl, st⟩ kl x = wr ⟨sl, st⟩ (fun ys r1 => frzs ys r1 fun ds r2 => match ds with
  | [.list a, .list b] => kl (pairs a b) r2
  | [.tuple a, .tuple b] => kl (pairs a b) r2
  | _ => False) x := Eq.trans rfl rfl
@[simp ↓] theorem e_zipM {wr : WA} : wZipM wr ⟨sl, st⟩ kl x = wr ⟨sl, st⟩ (fun ys r1 => frzs ys r1 fun ds r2 => match ds with
  | [.tuple a, .list b] => kl (pairs a b) r2
  | _ => False) x := Eq.trans rfl rfl
@[simp ↓] theorem e_enum {wr : WA} : wEnum wr ⟨sl, st⟩ kl x = wr ⟨sl, st⟩ (fun ys r1 => frzs ys r1 fun ds r2 => match ds with
  | [.list a] => kl (pairs (intR 0 a.length) a) r2
  | _ => False) x := Eq.trans rfl rfl
/-- a comprehension over what is to be walked -/
def lcR (t : Tg) (wt : WT) (we : WE) (vs : List Nat) (ds : List D) (r : Env) (kl : List D → Env → Prop) : Prop := loopC t wt we vs (fun acc r2 => kl acc (r2.mend r vs)) ds [] r
@[simp ↓] theorem e_lc {t : Tg} {wi : WI} {wt : WT} {we : WE} {vs : List Nat} : wLc t wi wt we vs ⟨sl, st⟩ kl x = wi ⟨sl, st⟩ (fun ds r1 => lcR t wt we vs ds r1 kl) x := Eq.trans rfl rfl
@[simp ↓] theorem e_frzE {we : WE} : wFrz we ⟨sl, st⟩ k x = we ⟨sl, st⟩ (fun y r1 => frz y r1 fun d r2 => k (.d d) r2) x := Eq.trans rfl rfl
@[simp ↓] theorem e_yes : wYes ⟨sl, st⟩ kt x = kt true ⟨sl, st⟩ := Eq.trans rfl rfl
@[simp ↓] theorem e_lstRg {w : WRg} : wLstRg w ⟨sl, st⟩ kl x = w ⟨sl, st⟩ (fun a b r1 => RgOk a b ∧ kl (rgD a b) r1) x := Eq.trans rfl rfl
@[simp ↓] theorem e_tupRg {w : WRg} : wTupRg w ⟨sl, st⟩ k x = w ⟨sl, st⟩ (fun a b r1 => RgOk a b ∧ k (.d (.tuple (rgD a b))) r1) x := Eq.trans rfl rfl
@[simp ↓] theorem e_rg1 {w : WE} {kr : Int → Int → Env → Prop} : wRg1 w ⟨sl, st⟩ kr x = w ⟨sl, st⟩ (fun y r1 => isI y fun n => kr 0 n r1) x := Eq.trans rfl rfl
@[simp ↓] theorem e_rg2 {w u : WE} {kr : Int → Int → Env → Prop} : wRg2 w u ⟨sl, st⟩ kr x = w ⟨sl, st⟩ (fun y r1 => u r1 (fun z r2 => isI y fun i => isI z fun j => kr i j r2) x) x := Eq.trans rfl rfl
@[simp ↓] theorem e_revL {w : WE} : wRevL w ⟨sl, st⟩ kl x = w ⟨sl, st⟩ (fun y r1 => dref y r1 fun d => match d with
  | .list ds => kl ds.reverse r1
  | _ => False) x := Eq.trans rfl rfl
@[simp ↓] theorem e_revS {w : WE} : wRevS w ⟨sl, st⟩ k x = w ⟨sl, st⟩ (fun y r1 => dref y r1 fun d => match d with
  | .str z => z.length ≤ sizeLine ∧ k (.d (.str (revZ z))) r1
  | _ => False) x := Eq.trans rfl rfl
@[simp ↓] theorem e_lst3 {wr : WA} : wLst3 wr ⟨sl, st⟩ kl x = wr ⟨sl, st⟩ (fun ys r1 => drefs ys r1 fun ds => match ds with
  | [.int i, .int j, .int c] => c = -1 ∧ (-(2 ^ 62) ≤ i ∧ i < 2 ^ 62 ∧ -(2 ^ 62) ≤ j ∧ j < 2 ^ 62) ∧ (i - j).toNat ≤ 2 ^ 24 ∧ kl (intRC i (-1) (i - j).toNat) r1
  | _ => False) x := Eq.trans rfl rfl
@[simp ↓] theorem e_isi {T : String} {we : WE} : wIsi T we ⟨sl, st⟩ k x = we ⟨sl, st⟩ (fun y r1 => dref y r1 fun d => k (.d (.bool (isiD T d))) r1) x := Eq.trans rfl rfl
@[simp ↓] theorem e_isi2 {T U : String} {we : WE} : wIsi2 T U we ⟨sl, st⟩ k x = we ⟨sl, st⟩ (fun y r1 => dref y r1 fun d => k (.d (.bool (isiD T d || isiD U d))) r1) x := Eq.trans rfl rfl
/-! calls -/
@[simp ↓] theorem e_call {G : FS} {wr : WA} : wCall n G wr ⟨sl, st⟩ k x = wr ⟨sl, st⟩ (fun ys r1 => ys.length = n ∧ G ys r1.st (fun y st' => k y ⟨r1.sl, st'⟩) (fun e st' => x e ⟨r1.sl, st'⟩)) x := Eq.trans rfl rfl
@[simp ↓] theorem e_callK0 {m : Nat} {G : FS} {o : List Nat} {wk : WA} : wCallK0 n m G o wk ⟨sl, st⟩ k x = wk ⟨sl, st⟩ (fun zs r2 => zs.length = m ∧ (pick o zs).length = n ∧ G (pick o zs) r2.st (fun y st' => k y ⟨r2.sl, st'⟩) (fun e st' => x e ⟨r2.sl, st'⟩)) x := Eq.trans rfl rfl
@[simp ↓] theorem e_callKP {np m : Nat} {G : FS} {o : List Nat} {wr wk : WA} : wCallKP n np m G o wr wk ⟨sl, st⟩ k x = wr ⟨sl, st⟩ (fun ys r1 => ys.length = np ∧ wk r1 (fun zs r2 => zs.length = m ∧ (pick o (ys ++ zs)).length = n ∧ G (pick o (ys ++ zs)) r2.st (fun y st' => k y ⟨r2.sl, st'⟩) (fun e st' => x e ⟨r2.sl, st'⟩)) x) x := Eq.trans rfl rfl
@[simp ↓] theorem e_pick0 {α : Type} {l : List α} : pick [] l = [] := Eq.trans rfl rfl
@[simp ↓] theorem e_pick1 {α : Type} {l : List α} {o : List Nat} : pick (i :: o) l = match l[i]? with
  | some a => a :: pick o l
  | none => pick o l := by
  unfold pick
  rw [List.filterMap_cons]
  cases l[i]? <;> rfl
@[simp ↓] theorem e_find {m : Nat} {k : R → Sto → Prop} : fin m (.d d) st k = k (.d d) (st.take m) := Eq.trans rfl rfl
@[simp ↓] theorem e_fino {m : Nat} {b : Exn} {k : R → Sto → Prop} : fin m (.o (.exc b)) st k = k (.o (.exc b)) (st.take m) := Eq.trans rfl rfl
@[simp ↓] theorem e_finos {m : Nat} {b : List Int} {k : R → Sto → Prop} : fin m (.o (.scr b)) st k = k (.o (.scr b)) (st.take m) := Eq.trans rfl rfl
theorem e_finr {m : Nat} {cn : Str} {k : R → Sto → Prop} : fin m (.o (.ref n cn)) st k = if n < m then k (.o (.ref n cn)) (st.take m) else match st[n]? with
    | some (some ds) => k (.o (.ref m cn)) (st.take m ++ [some ds])
    | _ => False := Eq.trans rfl rfl
theorem e_finl {m : Nat} {k : R → Sto → Prop} : fin m (.l n) st k = if n < m then k (.l n) (st.take m) else match st[n]? with
    | some (some ds) => k (.l m) (st.take m ++ [some ds])
    | _ => False := Eq.trans rfl rfl
theorem e_run {w : WS} {k : R → Sto → Prop} {x : Exn → Sto → Prop} : runF n w ys st k x = w ⟨ys.map some ++ List.replicate (n - ys.length) none, st⟩
  ⟨fun r => k (.d .none) (r.st.take st.length), fun y r => fin st.length y r.st k, fun _ => False, fun _ => False, fun e r => x e (r.st.take st.length)⟩ := Eq.trans rfl rfl
end
/-! ### the operations on what they are used at -/
section
variable {i j : Int} {k : D → Prop} {kb : Bool → Prop} {ds es : List D} {a b : List Nat} {d e : D} {kl : List D → Prop} {z w : Str}
theorem S_len : (S a).length = a.length := by
  show (a.toArray).size = _
  simp
theorem S_app : S a ++ S b = S (a ++ b) := by
  show (⟨a.toArray ++ b.toArray⟩ : Str) = ⟨(a ++ b).toArray⟩
  simp
theorem S_inj : (S a = S b) ↔ a = b := by
  constructor
  · intro h
    have h2 : a.toArray = b.toArray := by
      injection h
    simpa using h2
  · intro h
    rw [h]
theorem S_beq : (S a == S b) = decide (a = b) := by
  by_cases h : a = b
  · subst h
    simp
  · rw [decide_eq_false h]
    refine beq_eq_false_iff_ne.mpr fun q => h (S_inj.mp q)
theorem signs_S : signs (S a) = a.map sign := by
  show (a.toArray).toList.map sign = _
  simp
theorem sign_S {c : Nat} : sign c = .str (S [c]) := rfl
@[simp ↓] theorem g_add : gAdd (.int i) (.int j) k = k (.int (i + j)) := Eq.trans rfl rfl
theorem g_addS : gAdd (.str (S a)) (.str (S b)) k = (a.length + b.length ≤ sizeLine ∧ k (.str (S (a ++ b)))) := by
  show ((S a).length + (S b).length ≤ sizeLine ∧ k (.str (S a ++ S b))) = _
  rw [S_len, S_len, S_app]
@[simp ↓] theorem g_addT : gAdd (.tuple ds) (.tuple es) k = (ds.length + es.length ≤ sizeLine ∧ k (.tuple (ds ++ es))) := Eq.trans rfl rfl
@[simp ↓] theorem g_addLL : gAdd (.list ds) (.list es) k = (ds.length + es.length ≤ sizeLine ∧ k (.list (ds ++ es))) := Eq.trans rfl rfl
@[simp ↓] theorem g_addL : gAddL (.list ds) (.list es) kl = (ds.length + es.length ≤ sizeLine ∧ kl (ds ++ es)) := Eq.trans rfl rfl
@[simp ↓] theorem g_sub : gSub (.int i) (.int j) k = k (.int (i - j)) := Eq.trans rfl rfl
@[simp ↓] theorem g_mul : gMul (.int i) (.int j) k = (i.natAbs.log2 + j.natAbs.log2 < 1000000 ∧ k (.int (i * j))) := Eq.trans rfl rfl
@[simp ↓] theorem g_mulC : gMulC (.int i) (.int j) k = ((-(2 ^ 64) < j ∧ j < 2 ^ 64) ∧ k (.int (i * j))) := Eq.trans rfl rfl
@[simp ↓] theorem g_mulLL : gMul (.list ds) (.int j) k = (-(2 ^ 63) ≤ j ∧ j < 2 ^ 63 ∧ ds.length * j.toNat ≤ sizeLine ∧ k (.list (List.replicate j.toNat ds).flatten)) := Eq.trans rfl rfl
@[simp ↓] theorem g_mulL : gMulL (.list ds) (.int j) kl = (-(2 ^ 63) ≤ j ∧ j < 2 ^ 63 ∧ ds.length * j.toNat ≤ sizeLine ∧ kl (List.replicate j.toNat ds).flatten) := Eq.trans rfl rfl
@[simp ↓] theorem g_div : gDiv (.int i) (.int j) k = ((0 < j ∧ j.natAbs.log2 < 9000) ∧ k (.int (i / j))) := Eq.trans rfl rfl
@[simp ↓] theorem g_mod : gMod (.int i) (.int j) k = (0 < j ∧ k (.int (i % j))) := Eq.trans rfl rfl
@[simp ↓] theorem g_pow : gPow (.int i) (.int j) k = ((0 ≤ j ∧ j ≤ 1000 ∧ i.natAbs.log2 < 100000) ∧ k (.int (i ^ j.toNat))) := Eq.trans rfl rfl
@[simp ↓] theorem g_neg : gNeg (.int i) k = k (.int (-i)) := Eq.trans rfl rfl
@[simp ↓] theorem g_iadd : gIAdd (.int i) (.int j) k = k (.int (i + j)) := Eq.trans rfl rfl
theorem g_eqS : gEq (.str (S a)) (.str (S b)) kb = kb (decide (a = b)) := by
  show kb (S a == S b) = _
  rw [S_beq]
theorem shp_int : shp (.int i) = true := by
  show (PyData.canLay0 (.int i) && decide ((PyData.int i).depth ≤ 64)) = true
  simp [PyData.canLay0, PyData.depth]
theorem g_eq : gEq (.int i) (.int j) kb = kb (decide (i = j)) := by
  show (shp (.int i) = true ∧ shp (.int j) = true ∧ kb (eqd (.int i) (.int j))) = _
  have e : eqd (.int i) (.int j) = decide (i = j) := by
    show PyData.eqv (.int i) (.int j) = _
    simp [PyData.eqv]
    rfl
  rw [shp_int, shp_int, e]
  simp
theorem g_ne : gNe (.int i) (.int j) kb = kb (!decide (i = j)) := by
  show gEq (.int i) (.int j) (fun b => kb (!b)) = _
  rw [g_eq]
@[simp ↓] theorem g_lt : gLt (.int i) (.int j) kb = kb (decide (i < j)) := Eq.trans rfl rfl
@[simp ↓] theorem g_le : gLe (.int i) (.int j) kb = kb (decide (i ≤ j)) := Eq.trans rfl rfl
@[simp ↓] theorem g_gt : gGt (.int i) (.int j) kb = kb (decide (j < i)) := Eq.trans rfl rfl
@[simp ↓] theorem g_ge : gGe (.int i) (.int j) kb = kb (decide (j ≤ i)) := Eq.trans rfl rfl
@[simp ↓] theorem g_inS {c : Nat} : gIn (.str (S [c])) (.str (S a)) kb = kb (decide (c ∈ a)) := Eq.trans rfl rfl
@[simp ↓] theorem g_notinS {c : Nat} : gNotIn (.str (S [c])) (.str (S a)) kb = kb (!decide (c ∈ a)) := Eq.trans rfl rfl
theorem g_ixLs {k : D → Prop} (h : atI ds i = some d) : gIx (.list ds) (.int i) k = k d := by
  show (match atI ds i with
    | some d => k d
    | none => False) = _
  rw [h]
theorem g_ixTs {k : D → Prop} (h : atI ds i = some d) : gIx (.tuple ds) (.int i) k = k d := by
  show (match atI ds i with
    | some d => k d
    | none => False) = _
  rw [h]
theorem g_ixL {k : D → Prop} : gIx (.list ds) (.int i) k = match atI ds i with
  | some d => k d
  | none => False := Eq.trans rfl rfl
theorem g_ixS {k : D → Prop} : gIx (.str (S a)) (.int i) k = (a.length ≤ sizeLine ∧ match atI a i with
  | some c => k (.str (S [c]))
  | none => False) := by
  show ((S a).length ≤ sizeLine ∧ _) = _
  rw [S_len]
  rfl
@[simp ↓] theorem g_lenL {k : D → Prop} : gLen [.list ds] k = k (.int ds.length) := Eq.trans rfl rfl
@[simp ↓] theorem g_lenT {k : D → Prop} : gLen [.tuple ds] k = k (.int ds.length) := Eq.trans rfl rfl
theorem g_lenS {k : D → Prop} : gLen [.str (S a)] k = (a.length ≤ sizeLine ∧ k (.int a.length)) := by
  show ((S a).length ≤ sizeLine ∧ k (.int (S a).length)) = _
  rw [S_len]
@[simp ↓] theorem g_max2 : gMax [.int i, .int j] k = k (.int (max i j)) := Eq.trans rfl rfl
@[simp ↓] theorem g_min2 : gMin [.int i, .int j] k = k (.int (min i j)) := Eq.trans rfl rfl
@[simp ↓] theorem g_intB {b : Bool} : gInt [.bool b] k = k (.int (if b = true then 1 else 0)) := Eq.trans rfl rfl
@[simp ↓] theorem g_intI : gInt [.int i] k = k (.int i) := Eq.trans rfl rfl
@[simp ↓] theorem g_tupL : gTuple [.list ds] k = k (.tuple ds) := Eq.trans rfl rfl
@[simp ↓] theorem g_tupT : gTuple [.tuple ds] k = k (.tuple ds) := Eq.trans rfl rfl
@[simp ↓] theorem g_lstAL : gListA [.list ds] kl = kl ds := Eq.trans rfl rfl
@[simp ↓] theorem g_lstAT : gListA [.tuple ds] kl = kl ds := Eq.trans rfl rfl
@[simp ↓] theorem g_lstL : gListL [.list ds] kl = kl ds := Eq.trans rfl rfl
@[simp ↓] theorem g_lstT : gListL [.tuple ds] kl = kl ds := Eq.trans rfl rfl
theorem g_all {bs : List Bool} (h : boolsD ds = some bs) : gAll [.list ds] k = k (.bool (bs.all id)) := by
  show withO (boolsD ds) _ = _
  rw [h]
  rfl
theorem g_slS {lo hi : Option Int} : gSl (.str (S a)) lo hi k = (a.length ≤ sizeLine ∧ k (.str (S (cut a lo hi)))) := by
  show ((S a).length ≤ sizeLine ∧ _) = _
  rw [S_len]
@[simp ↓] theorem g_slL {lo hi : Option Int} : gSl (.list ds) lo hi k = k (.list (cut ds lo hi)) := Eq.trans rfl rfl
@[simp ↓] theorem g_slT {lo hi : Option Int} : gSl (.tuple ds) lo hi k = k (.tuple (cut ds lo hi)) := Eq.trans rfl rfl
@[simp ↓] theorem g_slLL {lo hi : Option Int} : gSlL (.list ds) lo hi kl = kl (cut ds lo hi) := Eq.trans rfl rfl
@[simp] theorem i_str {T : String} : isiD T (.str z) = decide (T = "str") := by
  simp [isiD, tyS, eq_comm]
@[simp] theorem i_list {T : String} : isiD T (.list ds) = decide (T = "list") := by
  simp [isiD, tyS, eq_comm]
@[simp] theorem i_tup {T : String} : isiD T (.tuple ds) = decide (T = "tuple") := by
  simp [isiD, tyS, eq_comm]
@[simp] theorem i_int {T : String} : isiD T (.int i) = decide (T = "int") := by
  simp [isiD, tyS, eq_comm]
@[simp] theorem i_none {T : String} : isiD T .none = decide (T = "NoneType") := by
  simp [isiD, tyS, eq_comm]
@[simp] theorem i_bool {T : String} {b : Bool} : isiD T (.bool b) = (decide (T = "bool") || decide (T = "int")) := by
  simp [isiD, tyS, eq_comm]
theorem cut_dropLast {α : Type} {l : List α} : cut l none (some (-1)) = l.dropLast := by
  have e : HT.sIx l.length l.length (some (-1)) = l.length - 1 := by
    show (if (-1 : Int) < 0 then ((-1 : Int) + (l.length : Int)).toNat else min (-1 : Int).toNat l.length) = _
    rw [if_pos (by decide)]
    omega
  unfold cut
  rw [HT.sIx_none, e, List.drop_zero, Nat.sub_zero, List.dropLast_eq_take]
theorem atI_nat {α : Type} {l : List α} {n : Nat} : atI l (n : Int) = l[n]? := by
  unfold atI ixN
  rw [if_pos (Int.natCast_nonneg n)]
  by_cases h : n < l.length
  · rw [if_pos (by omega)]
    rfl
  · rw [if_neg (by omega), List.getElem?_eq_none (by omega)]
    rfl
end
/-! ### loops -/
theorem loopF_inv {t : Tg} {wb : WS} {p : Post} (I : List D → Env → Prop) (hstep : ∀ d ds r K, (∀ r', I ds r' → K r') → I (d :: ds) r → asgT t d r fun r1 => wb r1 { p with nx := K, ct := K, bk := p.nx })
    (hend : ∀ r, I [] r → p.nx r) : ∀ ds r, I ds r → loopF t wb p ds r
  | [], r, h => hend r h
  | d :: ds, r, h => hstep d ds r (loopF t wb p ds) (loopF_inv I hstep hend ds) h
theorem wipeL_get {α : Type} {l : List (Option α)} {i : Nat} : ∀ {vs : List Nat}, (wipeL l vs)[i]? = if i ∈ vs ∧ i < l.length then some none else l[i]?
  | [] => by simp [wipeL]
  | v :: vs => by
    show ((wipeL l vs).set v none)[i]? = _
    rw [List.getElem?_set]
    by_cases hv : v = i
    · subst hv
      rw [if_pos rfl, wipeL_len]
      by_cases hl : v < l.length
      · rw [if_pos hl, if_pos ⟨by simp, hl⟩]
      · rw [if_neg hl, if_neg (fun z => hl z.2), List.getElem?_eq_none (by omega)]
    · rw [if_neg hv, wipeL_get]
      by_cases h : i ∈ vs
      · simp [h]
      · have : i ∉ v :: vs := by
          simp [h]
          exact fun z => hv z.symm
        simp [h, this]
theorem mendL_get {r : Env} {l : List (Option R)} {i : Nat} : ∀ {vs : List Nat}, (mendL r l vs)[i]? = if i ∈ vs ∧ i < l.length then some (heldD r i) else l[i]?
  | [] => by simp [mendL]
  | v :: vs => by
    show ((mendL r l vs).set v (heldD r v))[i]? = _
    rw [List.getElem?_set]
    by_cases hv : v = i
    · subst hv
      rw [if_pos rfl, mendL_len]
      by_cases hl : v < l.length
      · rw [if_pos hl, if_pos ⟨by simp, hl⟩]
      · rw [if_neg hl, if_neg (fun z => hl z.2), List.getElem?_eq_none (by omega)]
    · rw [if_neg hv, mendL_get]
      by_cases h : i ∈ vs
      · simp [h]
      · have : i ∉ v :: vs := by
          simp [h]
          exact fun z => hv z.symm
        simp [h, this]
theorem mend_ok {sl : List (Option R)} {st st' : Sto} {r : Env} {vs : List Nat} (h : wipeL r.sl vs = wipeL sl vs) (hs : r.st = st') (hv : ∀ v ∈ vs, v < sl.length → sl[v]? = some (heldD ⟨sl, st⟩ v)) : r.mend ⟨sl, st⟩ vs = ⟨sl, st'⟩ := by
  have hl : r.sl.length = sl.length := by
    have := congrArg List.length h
    rwa [wipeL_len, wipeL_len] at this
  show (⟨mendL ⟨sl, st⟩ r.sl vs, r.st⟩ : Env) = _
  rw [hs]
  congr 1
  apply List.ext_getElem?
  intro i
  rw [mendL_get]
  by_cases hi : i ∈ vs ∧ i < r.sl.length
  · rw [if_pos hi, hv i hi.1 (by omega)]
  · rw [if_neg hi]
    have h2 : (wipeL r.sl vs)[i]? = (wipeL sl vs)[i]? := by rw [h]
    rw [wipeL_get, wipeL_get, if_neg hi, if_neg (by rw [← hl]; exact hi)] at h2
    exact h2
/-- a comprehension that changes nothing of the store, over any list -/
theorem lc_pure {α : Type} {t : Tg} {wt : WT} {we : WE} {vs : List Nat} {sl : List (Option R)} {st : Sto} (e : α → D) (p : α → Bool) (f : α → D) (env : α → List (Option R)) {k : List D → Env → Prop}
    (hv : ∀ v ∈ vs, v < sl.length → sl[v]? = some (heldD ⟨sl, st⟩ v)) : ∀ (l : List α) (acc : List D) (r : Env), r.wipe vs = ⟨wipeL sl vs, st⟩ →
    (∀ d ∈ l, ∀ K : Env → Prop, K ⟨env d, st⟩ → asgT t (e d) ⟨wipeL sl vs, st⟩ K) → (∀ d ∈ l, wipeL (env d) vs = wipeL sl vs) →
    (∀ d ∈ l, ∀ K X, K (p d) ⟨env d, st⟩ → wt ⟨env d, st⟩ K X) →
    (∀ d ∈ l, p d = true → ∀ (K : KE) X, K (.d (f d)) ⟨env d, st⟩ → we ⟨env d, st⟩ K X) →
    acc.length + l.length ≤ sizeLine → k (acc ++ (l.filter p).map f) ⟨sl, st⟩ → loopC t wt we vs (fun acc r2 => k acc (r2.mend ⟨sl, st⟩ vs)) (l.map e) acc r
  | [], acc, r, hw, _, _, _, _, _, h => by
    show k acc (r.mend ⟨sl, st⟩ vs)
    have h1 : wipeL r.sl vs = wipeL sl vs := congrArg Env.sl hw
    have h2 : r.st = st := congrArg Env.st hw
    rw [mend_ok h1 h2 hv]
    simpa using h
  | d :: ds, acc, r, hw, ha, hb, ht, he, hz, h => by
    show asgT t (e d) (r.wipe vs) _
    rw [hw]
    refine ha d (by simp) _ (ht d (by simp) _ _ ?_)
    have ew : (⟨env d, st⟩ : Env).wipe vs = ⟨wipeL sl vs, st⟩ := by
      show (⟨wipeL (env d) vs, st⟩ : Env) = _
      rw [hb d (by simp)]
    have go := fun acc' hz' h' => lc_pure (k := k) e p f env hv ds acc' ⟨env d, st⟩ ew (fun e m => ha e (List.mem_cons_of_mem _ m)) (fun e m => hb e (List.mem_cons_of_mem _ m)) (fun e m => ht e (List.mem_cons_of_mem _ m)) (fun e m => he e (List.mem_cons_of_mem _ m)) hz' h'
    rw [List.length_cons] at hz
    cases hp : p d with
    | true =>
      refine he d (by simp) hp _ _ ?_
      show acc.length < sizeLine ∧ _
      refine ⟨by omega, go (acc ++ [f d]) (by rw [List.length_append, List.length_singleton]; omega) ?_⟩
      rw [List.filter_cons_of_pos hp] at h
      simpa using h
    | false =>
      refine go acc (by omega) ?_
      rw [List.filter_cons_of_neg (by rw [hp]; simp)] at h
      exact h
/-- .. over one name -/
theorem lc1 {α : Type} {i : Nat} {wt : WT} {we : WE} {sl : List (Option R)} {st : Sto} (e : α → D) (p : α → Bool) (f : α → D) {l : List α} {k : List D → Env → Prop} {ds : List D} (hd : ds = l.map e)
    (ht : ∀ d ∈ l, ∀ K X, K (p d) ⟨sl.set i (some (.d (e d))), st⟩ → wt ⟨sl.set i (some (.d (e d))), st⟩ K X)
    (he : ∀ d ∈ l, p d = true → ∀ (K : KE) X, K (.d (f d)) ⟨sl.set i (some (.d (e d))), st⟩ → we ⟨sl.set i (some (.d (e d))), st⟩ K X)
    (hz : l.length ≤ sizeLine) (h : k ((l.filter p).map f) ⟨sl, st⟩) (hv : i < sl.length → sl[i]? = some (heldD ⟨sl, st⟩ i) := by intro _; rfl) : lcR (.nm i) wt we [i] ds ⟨sl, st⟩ k := by
  subst hd
  refine lc_pure e p f (fun d => sl.set i (some (.d (e d)))) (fun v hm => ?_) l [] ⟨sl, st⟩ rfl (fun d _ K hK => ?_) (fun d _ => ?_) ht he (by simpa using hz) (by simpa using h)
  · rw [List.mem_singleton.mp hm]
    exact hv
  · show K ⟨(sl.set i none).set i (some (.d (e d))), st⟩
    rw [List.set_set]
    exact hK
  · show (sl.set i (some (.d (e d)))).set i none = sl.set i none
    rw [List.set_set]
/-- .. every item taken -/
theorem lc1y {α : Type} {i : Nat} {we : WE} {sl : List (Option R)} {st : Sto} (e : α → D) (f : α → D) {l : List α} {k : List D → Env → Prop} {ds : List D} (hd : ds = l.map e)
    (he : ∀ d ∈ l, ∀ (K : KE) X, K (.d (f d)) ⟨sl.set i (some (.d (e d))), st⟩ → we ⟨sl.set i (some (.d (e d))), st⟩ K X)
    (hz : l.length ≤ sizeLine) (h : k (l.map f) ⟨sl, st⟩) (hv : i < sl.length → sl[i]? = some (heldD ⟨sl, st⟩ i) := by intro _; rfl) : lcR (.nm i) wYes we [i] ds ⟨sl, st⟩ k :=
  lc1 e (fun _ => true) f hd (fun _ _ _ _ hk => hk) (fun d m _ => he d m) hz (by
    rw [List.filter_eq_self.mpr (fun _ _ => rfl)]
    exact h) hv
/-- a loop that folds -/
theorem loopF_fold {α σ : Type} {t : Tg} {wb : WS} {p : Post} (e : α → D) (step : σ → α → σ) (Inv : List α → σ → Prop) (Rel : σ → Env → Prop)
    (hstep : ∀ a l s r K, Inv (a :: l) s → Rel s r → (∀ r', Rel (step s a) r' → K r') → asgT t (e a) r fun r1 => wb r1 { p with nx := K, ct := K, bk := p.nx })
    (hinv : ∀ a l s, Inv (a :: l) s → Inv l (step s a)) : ∀ (l : List α) (s : σ) (r : Env), Inv l s → Rel s r → (∀ r', Rel (l.foldl step s) r' → p.nx r') → loopF t wb p (l.map e) r
  | [], s, r, _, hr, h => h r hr
  | a :: l, s, r, hi, hr, h => hstep a l s r (loopF t wb p (l.map e)) hi hr fun r' hr' => loopF_fold e step Inv Rel hstep hinv l (step s a) r' (hinv a l s hi) hr' h
/-! ### stores -/
@[simp] theorem st_take {α : Type} {st : List α} {n : Nat} {v : α} : (st.set n v).take st.length = st.set n v := List.take_of_length_le (by simp)
@[simp] theorem st_take2 {α : Type} {st l : List α} : (st ++ l).take st.length = st := by simp
@[simp] theorem st_get0 {α : Type} {st l : List α} : (st ++ l)[st.length]? = l[0]? := by
  rw [List.getElem?_append_right (Nat.le_refl _), Nat.sub_self]
@[simp] theorem st_get1 {α : Type} {st l : List α} {j : Nat} : (st ++ l)[st.length + j]? = l[j]? := by
  rw [List.getElem?_append_right (by omega)]
  congr 1
  omega
@[simp] theorem st_set0 {α : Type} {st l : List α} {v : α} : (st ++ l).set st.length v = st ++ l.set 0 v := by
  rw [List.set_append_right _ _ (Nat.le_refl _), Nat.sub_self]
@[simp] theorem st_set1 {α : Type} {st l : List α} {v : α} {j : Nat} : (st ++ l).set (st.length + j) v = st ++ l.set j v := by
  rw [List.set_append_right _ _ (by omega)]
  congr 2
  omega
/-! ### in a tuple of texts -/
theorem strEqB {a b : List Nat} : eqd (.str (S b)) (.str (S a)) = decide (a = b) := by
  have e : eqd (.str (S b)) (.str (S a)) = (S b == S a) := by
    show PyData.eqv _ _ = _
    simp [PyData.eqv]
  rw [e, S_beq]
  by_cases h : a = b
  · simp [h]
  · rw [decide_eq_false h, decide_eq_false (fun z => h z.symm)]
theorem g_inT4 {a b c d e : List Nat} {kb : Bool → Prop} : gIn (.str (S a)) (.tuple [.str (S b), .str (S c), .str (S d), .str (S e)]) kb = kb (decide (a = b) || (decide (a = c) || (decide (a = d) || decide (a = e)))) := by
  show (_ ∧ _ ∧ kb ([PyData.str (S b), .str (S c), .str (S d), .str (S e)].any fun z => eqd z (.str (S a)))) = _
  simp [strEqB, flatD]
theorem sz {n : Nat} (h : n ≤ 1000000) : n ≤ sizeLine := by
  rw [sizeLine_eq]
  omega
/-! ### places by number -/
theorem ixN_nat {n m : Nat} : ixN n (m : Int) = if m < n then some m else none := by
  unfold ixN
  rw [if_pos (Int.natCast_nonneg m)]
  by_cases h : m < n
  · rw [if_pos (by omega), if_pos h]
    rfl
  · rw [if_neg (by omega), if_neg h]
@[simp] theorem ixN_lit {n m : Nat} : ixN n (no_index (OfNat.ofNat m) : Int) = if (OfNat.ofNat m : Nat) < n then some (OfNat.ofNat m : Nat) else none := ixN_nat (m := m)
@[simp] theorem atI_lit {α : Type} {l : List α} {m : Nat} : atI l (no_index (OfNat.ofNat m) : Int) = l[(OfNat.ofNat m : Nat)]? := atI_nat (n := m)
@[simp] theorem atI_cast {α : Type} {l : List α} {m : Nat} : atI l (m : Int) = l[m]? := atI_nat
@[simp] theorem atI_last {α : Type} {l : List α} : atI l (-1) = l.getLast? := by
  unfold atI ixN
  rw [if_neg (by decide), List.getLast?_eq_getElem?]
  cases l with
  | nil => rfl
  | cons a l =>
    rw [if_pos (by rw [List.length_cons]; omega)]
    show (a :: l)[((-1 : Int) + ((a :: l).length : Nat)).toNat]? = _
    congr 1
    rw [List.length_cons]
    omega
theorem e_lstSet {sl : List (Option R)} {st : Sto} {n : Nat} {ds : List D} {k : List D → Prop} (h : n < st.length) : lstAt ⟨sl, st.set n (some ds)⟩ n k = k ds := e_lstAt (by rw [List.getElem?_set_self h])
@[simp ↓] theorem e_lstNew {sl : List (Option R)} {st : Sto} {ds : List D} {k : List D → Prop} {l : Sto} : lstAt ⟨sl, st ++ some ds :: l⟩ st.length k = k ds := e_lstAt (by simp)
@[simp ↓] theorem e_lstNew1 {sl : List (Option R)} {st : Sto} {ds : List D} {k : List D → Prop} {l : Sto} {j : Nat} : lstAt ⟨sl, st ++ l⟩ (st.length + j) k = lstAt ⟨sl, l⟩ j k := by
  unfold lstAt
  dsimp only
  rw [st_get1]
@[simp ↓] theorem e_lst0 {sl : List (Option R)} {ds : List D} {k : List D → Prop} {l : Sto} : lstAt ⟨sl, some ds :: l⟩ 0 k = k ds := Eq.trans rfl rfl
@[simp ↓] theorem e_lstS {sl : List (Option R)} {y : Option (List D)} {k : List D → Prop} {l : Sto} {j : Nat} : lstAt ⟨sl, y :: l⟩ (j + 1) k = lstAt ⟨sl, l⟩ j k := Eq.trans rfl rfl
@[simp ↓] theorem e_finNew {st : Sto} {ds : List D} {k : R → Sto → Prop} {l : Sto} : fin st.length (.l st.length) (st ++ some ds :: l) k = k (.l st.length) (st ++ [some ds]) := by
  rw [e_finl, if_neg (by omega), st_get0, st_take2]
  rfl
@[simp ↓] theorem e_finNewR {st : Sto} {ds : List D} {cn : Str} {k : R → Sto → Prop} {l : Sto} : fin st.length (.o (.ref st.length cn)) (st ++ some ds :: l) k = k (.o (.ref st.length cn)) (st ++ [some ds]) := by
  rw [e_finr, if_neg (by omega), st_get0, st_take2]
  rfl
@[simp ↓] theorem e_finNew1 {st : Sto} {k : R → Sto → Prop} {l : Sto} {j : Nat} : fin st.length (.l (st.length + j)) (st ++ l) k = match l[j]? with
  | some (some ds) => k (.l st.length) (st ++ [some ds])
  | _ => False := by
  rw [e_finl, if_neg (by omega), st_get1, st_take2]
@[simp ↓] theorem e_lstNew_1 {sl : List (Option R)} {st : Sto} {ds : List D} {y0 : Option (List D)} {k : List D → Prop} {l : Sto} : lstAt ⟨sl, st ++ y0 :: some ds :: l⟩ (st.length + 1) k = k ds := e_lstNew1 (j := 1) (ds := ds)
@[simp] theorem st_get_1 {α : Type} {st l : List α} : (st ++ l)[st.length + 1]? = l[1]? := st_get1
@[simp] theorem st_set_1 {α : Type} {st l : List α} {v : α} : (st ++ l).set (st.length + 1) v = st ++ l.set 1 v := st_set1
@[simp ↓] theorem e_lstNew_2 {sl : List (Option R)} {st : Sto} {ds : List D} {y0 y1 : Option (List D)} {k : List D → Prop} {l : Sto} : lstAt ⟨sl, st ++ y0 :: y1 :: some ds :: l⟩ (st.length + 2) k = k ds := e_lstNew1 (j := 2) (ds := ds)
@[simp] theorem st_get_2 {α : Type} {st l : List α} : (st ++ l)[st.length + 2]? = l[2]? := st_get1
@[simp] theorem st_set_2 {α : Type} {st l : List α} {v : α} : (st ++ l).set (st.length + 2) v = st ++ l.set 2 v := st_set1
@[simp ↓] theorem e_lstNew_3 {sl : List (Option R)} {st : Sto} {ds : List D} {y0 y1 y2 : Option (List D)} {k : List D → Prop} {l : Sto} : lstAt ⟨sl, st ++ y0 :: y1 :: y2 :: some ds :: l⟩ (st.length + 3) k = k ds := e_lstNew1 (j := 3) (ds := ds)
@[simp] theorem st_get_3 {α : Type} {st l : List α} : (st ++ l)[st.length + 3]? = l[3]? := st_get1
@[simp] theorem st_set_3 {α : Type} {st l : List α} {v : α} : (st ++ l).set (st.length + 3) v = st ++ l.set 3 v := st_set1
@[simp] theorem kill_map {n : Nat} {d : D} {o : Option D} : Option.map (R.kill n d) (Option.map R.d o) = Option.map R.d o := by
  cases o <;> rfl
theorem mJ {l : List D} {a : List Nat} {zs : List Str} {k : D → Prop} (h : strsD l = some zs) : mJoin (.str (S a)) [.list l] k = ((zs.map (·.length)).sum + zs.length * a.length ≤ 16777216 ∧ k (.str (Txt.join (S a) zs))) := by
  show withO (strsD l) _ = _
  rw [h]
  show ((zs.map (·.length)).sum + zs.length * (S a).length ≤ 16777216 ∧ k (.str (Txt.join (S a) zs))) = _
  rw [S_len]
theorem sum_ones : ∀ l : List Nat, ((l.map fun c => S [c]).map (·.length)).sum = l.length
  | [] => rfl
  | c :: l => by
    rw [List.map_cons, List.map_cons, List.sum_cons, sum_ones l, List.length_cons]
    show 1 + l.length = l.length + 1
    omega
/-! ### lists that stand behind a store of a known length -/
section
variable {sl : List (Option R)} {st : Sto} {m n : Nat} {ds es : List D} {l : Sto} {v : Option (List D)}
theorem e_lstM {k : List D → Prop} (h : st.length = m) : lstAt ⟨sl, st ++ some ds :: l⟩ m k = k ds := by
  subst h
  exact e_lstNew
theorem e_setM (h : st.length = m) : (st ++ v :: l).set m (some es) = st ++ some es :: l := by
  subst h
  rw [st_set0]
  rfl
theorem e_setL (h : n < st.length) : (st ++ l).set n v = st.set n v ++ l := List.set_append_left _ _ h
theorem e_getL (h : n < st.length) : (st ++ l)[n]? = st[n]? := List.getElem?_append_left h
theorem e_takeM (h : st.length = m) : (st ++ l).take m = st := by
  subst h
  exact st_take2
end
/-- a comprehension that works on the store -/
theorem lcI {α : Type} {i : Nat} {we : WE} {sl : List (Option R)} (e : α → D) (I : List α → List D → Sto → Prop) {kl : List D → Env → Prop}
    (hstep : ∀ a l acc st (K : KE) X, I (a :: l) acc st → (∀ d st', I l (acc ++ [d]) st' → K (.d d) ⟨sl.set i (some (.d (e a))), st'⟩) → we ⟨sl.set i (some (.d (e a))), st⟩ K X)
    {l : List α} {st : Sto} {ds : List D} (hd : ds = l.map e) (hz : l.length ≤ sizeLine) (h0 : I l [] st) (hend : ∀ acc st', I [] acc st' → kl acc ⟨sl, st'⟩) (hv : i < sl.length → sl[i]? = some (heldD ⟨sl, st⟩ i) := by intro _; rfl) :
    lcR (.nm i) wYes we [i] ds ⟨sl, st⟩ kl := by
  subst hd
  have go : ∀ (l : List α) (acc : List D) (r : Env), r.sl.set i none = sl.set i none → acc.length + l.length ≤ sizeLine → I l acc r.st → loopC (.nm i) wYes we [i] (fun acc r2 => kl acc (r2.mend ⟨sl, st⟩ [i])) (l.map e) acc r := by
    intro l
    induction l with
    | nil =>
      intro acc r hr _ hI
      show kl acc (r.mend ⟨sl, st⟩ [i])
      rw [mend_ok (st' := r.st) (show wipeL r.sl [i] = wipeL sl [i] from hr) rfl (fun v hm => by
        rw [List.mem_singleton.mp hm]
        exact hv)]
      exact hend acc r.st hI
    | cons a l ih =>
      intro acc r hr hz hI
      show we ⟨(r.sl.set i none).set i (some (.d (e a))), r.st⟩ _ _
      rw [hr, List.set_set]
      rw [List.length_cons] at hz
      refine hstep a l acc r.st _ _ hI fun d st' hI' => ?_
      show acc.length < sizeLine ∧ _
      refine ⟨by omega, ih (acc ++ [d]) ⟨_, st'⟩ ?_ (by rw [List.length_append, List.length_singleton]; omega) hI'⟩
      show (sl.set i (some (.d (e a)))).set i none = sl.set i none
      rw [List.set_set]
  exact go l [] ⟨sl, st⟩ rfl (by simpa using hz) h0
/-- a comprehension over names, nothing of the store touched -/
theorem lcT {α : Type} {vs : List Nat} {we : WE} {wt : WT} {sl : List (Option R)} {st : Sto} (e : α → List D) (p : α → Bool) (f : α → D) (env : α → List (Option R)) {l : List α} {k : List D → Env → Prop} {ds : List D} (hd : ds = l.map fun a => .tuple (e a))
    (ha : ∀ a ∈ l, ∀ K : Env → Prop, K ⟨env a, st⟩ → putMany vs ((e a).map R.d) ⟨wipeL sl vs, st⟩ K) (hw : ∀ a ∈ l, wipeL (env a) vs = wipeL sl vs)
    (ht : ∀ d ∈ l, ∀ K X, K (p d) ⟨env d, st⟩ → wt ⟨env d, st⟩ K X)
    (he : ∀ d ∈ l, p d = true → ∀ (K : KE) X, K (.d (f d)) ⟨env d, st⟩ → we ⟨env d, st⟩ K X)
    (hz : l.length ≤ sizeLine) (h : k ((l.filter p).map f) ⟨sl, st⟩) (hv : ∀ v ∈ vs, v < sl.length → sl[v]? = some (heldD ⟨sl, st⟩ v) := by (intro v hv _; simp at hv; first | (rcases hv with rfl | rfl | rfl <;> rfl) | (rcases hv with rfl | rfl <;> rfl))) : lcR (.tp vs) wt we vs ds ⟨sl, st⟩ k := by
  subst hd
  exact lc_pure (fun a => .tuple (e a)) p f env hv l [] ⟨sl, st⟩ rfl ha hw ht he (by simpa using hz) (by simpa using h)
@[simp ↓] theorem g_ixL0 {d : D} {ds : List D} {k : D → Prop} : gIx (.list (d :: ds)) (.int 0) k = k d := g_ixLs (show atI _ (((0 : Nat)) : Int) = some d from atI_nat)
@[simp ↓] theorem g_ixT0 {d : D} {ds : List D} {k : D → Prop} : gIx (.tuple (d :: ds)) (.int 0) k = k d := g_ixTs (show atI _ (((0 : Nat)) : Int) = some d from atI_nat)
@[simp ↓] theorem g_ixL1 {a0 : D} {d : D} {ds : List D} {k : D → Prop} : gIx (.list (a0 :: d :: ds)) (.int 1) k = k d := g_ixLs (show atI _ (((1 : Nat)) : Int) = some d from atI_nat)
@[simp ↓] theorem g_ixT1 {a0 : D} {d : D} {ds : List D} {k : D → Prop} : gIx (.tuple (a0 :: d :: ds)) (.int 1) k = k d := g_ixTs (show atI _ (((1 : Nat)) : Int) = some d from atI_nat)
@[simp ↓] theorem g_ixL2 {a0 a1 : D} {d : D} {ds : List D} {k : D → Prop} : gIx (.list (a0 :: a1 :: d :: ds)) (.int 2) k = k d := g_ixLs (show atI _ (((2 : Nat)) : Int) = some d from atI_nat)
@[simp ↓] theorem g_ixT2 {a0 a1 : D} {d : D} {ds : List D} {k : D → Prop} : gIx (.tuple (a0 :: a1 :: d :: ds)) (.int 2) k = k d := g_ixTs (show atI _ (((2 : Nat)) : Int) = some d from atI_nat)
@[simp ↓] theorem g_ixL3 {a0 a1 a2 : D} {d : D} {ds : List D} {k : D → Prop} : gIx (.list (a0 :: a1 :: a2 :: d :: ds)) (.int 3) k = k d := g_ixLs (show atI _ (((3 : Nat)) : Int) = some d from atI_nat)
@[simp ↓] theorem g_ixT3 {a0 a1 a2 : D} {d : D} {ds : List D} {k : D → Prop} : gIx (.tuple (a0 :: a1 :: a2 :: d :: ds)) (.int 3) k = k d := g_ixTs (show atI _ (((3 : Nat)) : Int) = some d from atI_nat)
@[simp ↓] theorem g_ixL4 {a0 a1 a2 a3 : D} {d : D} {ds : List D} {k : D → Prop} : gIx (.list (a0 :: a1 :: a2 :: a3 :: d :: ds)) (.int 4) k = k d := g_ixLs (show atI _ (((4 : Nat)) : Int) = some d from atI_nat)
@[simp ↓] theorem g_ixT4 {a0 a1 a2 a3 : D} {d : D} {ds : List D} {k : D → Prop} : gIx (.tuple (a0 :: a1 :: a2 :: a3 :: d :: ds)) (.int 4) k = k d := g_ixTs (show atI _ (((4 : Nat)) : Int) = some d from atI_nat)
@[simp ↓] theorem g_ixL5 {a0 a1 a2 a3 a4 : D} {d : D} {ds : List D} {k : D → Prop} : gIx (.list (a0 :: a1 :: a2 :: a3 :: a4 :: d :: ds)) (.int 5) k = k d := g_ixLs (show atI _ (((5 : Nat)) : Int) = some d from atI_nat)
@[simp ↓] theorem g_ixT5 {a0 a1 a2 a3 a4 : D} {d : D} {ds : List D} {k : D → Prop} : gIx (.tuple (a0 :: a1 :: a2 :: a3 :: a4 :: d :: ds)) (.int 5) k = k d := g_ixTs (show atI _ (((5 : Nat)) : Int) = some d from atI_nat)
@[simp ↓] theorem g_ixL6 {a0 a1 a2 a3 a4 a5 : D} {d : D} {ds : List D} {k : D → Prop} : gIx (.list (a0 :: a1 :: a2 :: a3 :: a4 :: a5 :: d :: ds)) (.int 6) k = k d := g_ixLs (show atI _ (((6 : Nat)) : Int) = some d from atI_nat)
@[simp ↓] theorem g_ixT6 {a0 a1 a2 a3 a4 a5 : D} {d : D} {ds : List D} {k : D → Prop} : gIx (.tuple (a0 :: a1 :: a2 :: a3 :: a4 :: a5 :: d :: ds)) (.int 6) k = k d := g_ixTs (show atI _ (((6 : Nat)) : Int) = some d from atI_nat)
@[simp ↓] theorem g_ixL7 {a0 a1 a2 a3 a4 a5 a6 : D} {d : D} {ds : List D} {k : D → Prop} : gIx (.list (a0 :: a1 :: a2 :: a3 :: a4 :: a5 :: a6 :: d :: ds)) (.int 7) k = k d := g_ixLs (show atI _ (((7 : Nat)) : Int) = some d from atI_nat)
@[simp ↓] theorem g_ixT7 {a0 a1 a2 a3 a4 a5 a6 : D} {d : D} {ds : List D} {k : D → Prop} : gIx (.tuple (a0 :: a1 :: a2 :: a3 :: a4 :: a5 :: a6 :: d :: ds)) (.int 7) k = k d := g_ixTs (show atI _ (((7 : Nat)) : Int) = some d from atI_nat)
@[simp ↓] theorem g_ixL8 {a0 a1 a2 a3 a4 a5 a6 a7 : D} {d : D} {ds : List D} {k : D → Prop} : gIx (.list (a0 :: a1 :: a2 :: a3 :: a4 :: a5 :: a6 :: a7 :: d :: ds)) (.int 8) k = k d := g_ixLs (show atI _ (((8 : Nat)) : Int) = some d from atI_nat)
@[simp ↓] theorem g_ixT8 {a0 a1 a2 a3 a4 a5 a6 a7 : D} {d : D} {ds : List D} {k : D → Prop} : gIx (.tuple (a0 :: a1 :: a2 :: a3 :: a4 :: a5 :: a6 :: a7 :: d :: ds)) (.int 8) k = k d := g_ixTs (show atI _ (((8 : Nat)) : Int) = some d from atI_nat)
end Dl

namespace Dl
open PySem
open PySem.Spec
open PyProof.Rows
open L2
def w_law_pool : WS := (wSeq (wSet 2 (wIf (wCmpT gLt (wVar 1) (wScrLen (wVar 0))) (wScrAt (wVar 0) (wVar 1)) (wC (.int 0))))
  (wRet (wLoc (wLst (wCons (wB gMax (wCons (wC (.int 0)) (wCons (wOp2 gSub (wB gAbs (wCons (wVar 2) wNil)) (wOp2 gPow (wC (.int 10)) (wC (.int 18)))) wNil))) (wCons (wOp2 gAdd (wOp2 gAdd (wOp2 gMul (wOp2 gMod (wVar 2) (wOp2 gAdd (wOp2 gPow (wC (.int 10)) (wC (.int 40))) (wC (.int 121)))) (wC (.int 89))) (wOp2 gMul (wC (.int 31)) (wVar 1))) (wC (.int 7))) (wCons (wC (.int 0)) wNil)))))))
def F_law_pool : FS := runF 3 w_law_pool
def w_law_draw : WS := (wSeq (wIfS (wCmpT gGt (wOp2 gIx (wVar 0) (wC (.int 0))) (wC (.int 0))) (wSeq (wSet 2 (wOp2 gMod (wOp2 gIx (wVar 0) (wC (.int 0))) (wVar 1)))
  (wSeq (wSetI (wVar 0) (wC (.int 0)) (wOp2 gDiv (wOp2 gIx (wVar 0) (wC (.int 0))) (wVar 1)))
  (wRet (wVar 2)))) wNext)
  (wSeq (wSetI (wVar 0) (wC (.int 2)) (wOp2 gAdd (wOp2 gIx (wVar 0) (wC (.int 2))) (wC (.int 1))))
  (wSeq (wSet 3 (wOp2 gMod (wOp2 gPow (wOp2 gAdd (wOp2 gIx (wVar 0) (wC (.int 1))) (wOp2 gMul (wC (.int 472882027)) (wOp2 gIx (wVar 0) (wC (.int 2))))) (wC (.int 3))) (wOp2 gAdd (wOp2 gPow (wC (.int 10)) (wC (.int 41))) (wC (.int 37)))))
  (wSeq (wSet 3 (wOp2 gMod (wOp2 gPow (wOp2 gAdd (wVar 3) (wOp2 gMul (wC (.int 86028121)) (wOp2 gIx (wVar 0) (wC (.int 2))))) (wC (.int 3))) (wOp2 gAdd (wOp2 gPow (wC (.int 10)) (wC (.int 39))) (wC (.int 3)))))
  (wRet (wOp2 gMod (wOp2 gDiv (wVar 3) (wC (.int 1000003))) (wVar 1)))))))
def F_law_draw : FS := runF 4 w_law_draw
def w_law_strokes : WS := (wSeq (wSet 2 (wOp2 gIx (wDat (wLst (wCons (wC (.str (S [97, 98, 45, 35]))) (wCons (wC (.str (S [60, 62, 45, 35]))) (wCons (wC (.str (S [120, 45, 35, 60, 62]))) (wCons (wC (.str (S [60, 62, 97]))) (wCons (wC (.str (S [45]))) (wCons (wC (.str (S [35]))) (wCons (wC (.str (S [97, 98, 99, 100, 101, 102, 103, 104, 105, 106, 107, 108, 109, 110, 111, 112, 113, 114, 115, 116, 117, 118, 119, 120, 121, 122, 45, 35, 60, 62]))) wNil))))))))) (wCall 2 F_law_draw (wCons (wVar 0) (wCons (wC (.int 7)) wNil)))))
  (wSeq (wSet 3 (wOp2 gIx (wDat (wLst (wCons (wCall 2 F_law_draw (wCons (wVar 0) (wCons (wC (.int 5)) wNil))) (wCons (wCall 2 F_law_draw (wCons (wVar 0) (wCons (wOp2 gAdd (wVar 1) (wC (.int 1))) wNil))) wNil)))) (wCall 2 F_law_draw (wCons (wVar 0) (wCons (wC (.int 2)) wNil)))))
  (wRet (wM "str" mJoin (wC (.str (S []))) (wCons (wDat (wLc (.nm 4) (wRng rng1 (wCons (wVar 3) wNil)) wYes (wOp2 gIx (wVar 2) (wCall 2 F_law_draw (wCons (wVar 0) (wCons (wB gLen (wCons (wVar 2) wNil)) wNil)))) [4])) wNil)))))
def F_law_strokes : FS := runF 5 w_law_strokes
def w_is_key : WS := (wRet (wOrV (wCmp gIn (wVar 0) (wC (.str cLow))) (wCmp gIn (wVar 0) (wTup (wCons (wC (.str (S [45]))) (wCons (wC (.str (S [35]))) (wCons (wC (.str (S [60]))) (wCons (wC (.str (S [62]))) wNil))))))))
def F_is_key : FS := runF 1 w_is_key
def w_is_keys : WS := (wRet (wAndV (wIsi "str" (wVar 0)) (wB gAll (wCons (wDat (wLc (.nm 1) (wIt (wVar 0)) wYes (wCall 1 F_is_key (wCons (wVar 1) wNil)) [1])) wNil))))
def F_is_keys : FS := runF 2 w_is_keys
def w_is_text : WS := (wRet (wAndV (wIsi "str" (wVar 0)) (wB gAll (wCons (wDat (wLc (.nm 1) (wIt (wVar 0)) wYes (wOrV (wCmp gIn (wVar 1) (wC (.str cLow))) (wCmp gIn (wVar 1) (wC (.str cUp)))) [1])) wNil))))
def F_is_text : FS := runF 2 w_is_text
def w_check_text : WS := (wIfS (wNotT (wTru (wCall 1 F_is_text (wCons (wVar 0) wNil)))) (wRaise "InvalidText") wNext)
def F_check_text : FS := runF 1 w_check_text
def w_is_integer : WS := (wSeq (wIfS (wOrT (wNotT (wTru (wIsi "int" (wVar 0)))) (wTru (wIsi "bool" (wVar 0)))) (wRet (wC (.bool false))) wNext)
  (wRet (wAndV (wCmp gGe (wVar 0) (wVar 1)) (wOrV (wCmp gIs (wVar 2) (wC .none)) (wCmp gLe (wVar 0) (wVar 2))))))
def F_is_integer : FS := runF 3 w_is_integer
def w_is_cursors : WS := (wSeq (wIfS (wOrT (wNotT (wTru (wIsi "tuple" (wVar 1)))) (wCmpT gEq (wVar 1) (wTup wNil))) (wRet (wC (.bool false))) wNext)
  (wSeq (wIfS (wNotT (wTru (wB gAll (wCons (wDat (wLc (.nm 2) (wIt (wVar 1)) wYes (wCall 3 F_is_integer (wCons (wVar 2) (wCons (wC (.int 0)) (wCons (wB gLen (wCons (wVar 0) wNil)) wNil)))) [2])) wNil)))) (wRet (wC (.bool false))) wNext)
  (wRet (wB gAll (wCons (wDat (wLc (.tp [3, 4]) (wZip (wCons (wVar 1) (wCons (wSl gSl (wVar 1) (wPart (wC (.int 1))) wNo) wNil))) wYes (wCmp gLt (wVar 3) (wVar 4)) [3, 4])) wNil)))))
def F_is_cursors : FS := runF 5 w_is_cursors
def w_check_cursors : WS := (wIfS (wNotT (wTru (wCall 2 F_is_cursors (wCons (wVar 0) (wCons (wVar 1) wNil))))) (wRaise "InvalidCursors") wNext)
def F_check_cursors : FS := runF 2 w_check_cursors
def w_check_keys : WS := (wIfS (wNotT (wTru (wCall 1 F_is_keys (wCons (wVar 0) wNil)))) (wRaise "InvalidKeys") wNext)
def F_check_keys : FS := runF 1 w_check_keys
def w_stretches_of : WS := (wSeq (wSet 2 (wOp2 gAdd (wOp2 gAdd (wTup (wCons (wC (.int 0)) wNil)) (wVar 1)) (wTup (wCons (wB gLen (wCons (wVar 0) wNil)) wNil))))
  (wRet (wDat (wLc (.tp [3, 4]) (wZip (wCons (wVar 2) (wCons (wSl gSl (wVar 2) (wPart (wC (.int 1))) wNo) wNil))) wYes (wSl gSl (wVar 0) (wPart (wVar 3)) (wPart (wVar 4))) [3, 4]))))
def F_stretches_of : FS := runF 5 w_stretches_of
def w_places_without_copies : WS := (wSeq (wSet 1 (wLoc (wLst wNil)))
  (wSeq (wFor (.nm 2) (wIt (wVar 0)) (wIfS (wOrT (wCmpT gEq (wVar 1) (wDat (wLst wNil))) (wCmpT gNe (wOp2 gIx (wVar 1) (wOp1 gNeg (wC (.int 1)))) (wVar 2))) (wDrop (wU uAppend (wVar 1) (wCons (wVar 2) wNil))) wNext))
  (wRet (wB gTuple (wCons (wVar 1) wNil)))))
def F_places_without_copies : FS := runF 3 w_places_without_copies
def w_state_with : WS := (wSeq (wSet 1 (wLoc (wLst wNil)))
  (wSeq (wSet 2 (wC (.int 0)))
  (wSeq (wFor (.nm 3) (wIt (wSl gSl (wVar 0) wNo (wPart (wOp1 gNeg (wC (.int 1)))))) (wSeq (wAug gIAdd 2 (wB gLen (wCons (wVar 3) wNil)))
  (wDrop (wU uAppend (wVar 1) (wCons (wVar 2) wNil)))))
  (wRet (wTup (wCons (wM "str" mJoin (wC (.str (S []))) (wCons (wVar 0) wNil)) (wCons (wCall 1 F_places_without_copies (wCons (wVar 1) wNil)) wNil)))))))
def F_state_with : FS := runF 4 w_state_with
def w_step_key : WS := (wSeq (wIfS (wCmpT gEq (wVar 2) (wC (.str (S [60])))) (wRet (wTup (wCons (wVar 0) (wCons (wCall 1 F_places_without_copies (wCons (wDat (wLc (.nm 4) (wIt (wVar 1)) wYes (wB gMax (wCons (wC (.int 0)) (wCons (wOp2 gSub (wVar 4) (wC (.int 1))) wNil))) [4])) wNil)) wNil)))) wNext)
  (wSeq (wIfS (wCmpT gEq (wVar 2) (wC (.str (S [62])))) (wRet (wTup (wCons (wVar 0) (wCons (wCall 1 F_places_without_copies (wCons (wDat (wLc (.nm 4) (wIt (wVar 1)) wYes (wB gMin (wCons (wB gLen (wCons (wVar 0) wNil)) (wCons (wOp2 gAdd (wVar 4) (wC (.int 1))) wNil))) [4])) wNil)) wNil)))) wNext)
  (wSeq (wSet 3 (wCall 2 F_stretches_of (wCons (wVar 0) (wCons (wVar 1) wNil))))
  (wSeq (wIfS (wCmpT gEq (wVar 2) (wC (.str (S [35])))) (wRet (wCall 1 F_state_with (wCons (wOp2 gAdd (wSl gSl (wVar 3) wNo (wPart (wC (.int 1)))) (wDat (wLc (.nm 5) (wIt (wSl gSl (wVar 3) (wPart (wC (.int 1))) wNo)) wYes (wSl gSl (wVar 5) (wPart (wC (.int 1))) wNo) [5]))) wNil))) wNext)
  (wSeq (wIfS (wCmpT gEq (wVar 2) (wC (.str (S [45])))) (wRet (wCall 1 F_state_with (wCons (wDat (wOpL gAddL (wDat (wLc (.nm 5) (wIt (wSl gSl (wVar 3) wNo (wPart (wOp1 gNeg (wC (.int 1)))))) wYes (wSl gSl (wVar 5) wNo (wPart (wOp1 gNeg (wC (.int 1))))) [5])) (wSl gSl (wVar 3) (wPart (wOp1 gNeg (wC (.int 1)))) wNo))) wNil))) wNext)
  (wRet (wCall 1 F_state_with (wCons (wDat (wOpL gAddL (wDat (wLc (.nm 5) (wIt (wSl gSl (wVar 3) wNo (wPart (wOp1 gNeg (wC (.int 1)))))) wYes (wOp2 gAdd (wVar 5) (wVar 2)) [5])) (wSl gSl (wVar 3) (wPart (wOp1 gNeg (wC (.int 1)))) wNo))) wNil))))))))
def F_step_key : FS := runF 6 w_step_key
def w_pressed : WS := (wSeq (wDrop (wCall 1 F_check_text (wCons (wVar 0) wNil)))
  (wSeq (wDrop (wCall 2 F_check_cursors (wCons (wVar 0) (wCons (wVar 1) wNil))))
  (wSeq (wDrop (wCall 1 F_check_keys (wCons (wVar 2) wNil)))
  (wSeq (wSet 3 (wTup (wCons (wVar 0) (wCons (wVar 1) wNil))))
  (wSeq (wFor (.nm 4) (wIt (wVar 2)) (wSet 3 (wCall 3 F_step_key (wCons (wOp2 gIx (wVar 3) (wC (.int 0))) (wCons (wOp2 gIx (wVar 3) (wC (.int 1))) (wCons (wVar 4) wNil))))))
  (wRet (wVar 3)))))))
def F_pressed : FS := runF 5 w_pressed
def w_layout_of : WS := (wSeq (wDrop (wCall 1 F_check_text (wCons (wVar 0) wNil)))
  (wSeq (wDrop (wCall 2 F_check_cursors (wCons (wVar 0) (wCons (wVar 1) wNil))))
  (wSeq (wSet 2 (wB gTuple (wCons (wDat (wLc (.tp [3, 4]) (wZip (wCons (wVar 1) (wCons (wSl gSl (wVar 1) (wPart (wC (.int 1))) wNo) wNil))) wYes (wOp2 gSub (wVar 4) (wVar 3)) [3, 4])) wNil)))
  (wRet (wTup (wCons (wOp2 gIx (wVar 1) (wC (.int 0))) (wCons (wVar 2) (wCons (wOp2 gSub (wB gLen (wCons (wVar 0) wNil)) (wOp2 gIx (wVar 1) (wOp1 gNeg (wC (.int 1))))) wNil))))))))
def F_layout_of : FS := runF 5 w_layout_of
def w_sums_of : WS := (wSeq (wSet 1 (wLoc (wLst (wCons (wC (.int 0)) wNil))))
  (wSeq (wFor (.nm 2) (wIt (wVar 0)) (wIfS (wCmpT gIn (wVar 2) (wC (.str (S [45, 35])))) (wDrop (wU uAppend (wVar 1) (wCons (wOp2 gAdd (wOp2 gIx (wVar 1) (wOp1 gNeg (wC (.int 1)))) (wC (.int 1))) wNil))) (wIfS (wCmpT gNotIn (wVar 2) (wC (.str (S [60, 62])))) (wDrop (wU uAppend (wVar 1) (wCons (wOp2 gSub (wOp2 gIx (wVar 1) (wOp1 gNeg (wC (.int 1)))) (wC (.int 1))) wNil))) wNext)))
  (wRet (wFrz (wVar 1)))))
def F_sums_of : FS := runF 3 w_sums_of
def w_depth_of : WS := (wSeq (wDrop (wCall 1 F_check_keys (wCons (wVar 0) wNil)))
  (wRet (wB gMax (wCons (wCall 1 F_sums_of (wCons (wVar 0) wNil)) wNil))))
def F_depth_of : FS := runF 1 w_depth_of
def w_net_of : WS := (wSeq (wDrop (wCall 1 F_check_keys (wCons (wVar 0) wNil)))
  (wRet (wOp2 gSub (wC (.int 0)) (wOp2 gIx (wCall 1 F_sums_of (wCons (wVar 0) wNil)) (wOp1 gNeg (wC (.int 1)))))))
def F_net_of : FS := runF 1 w_net_of
def w_far_run : WS := (wSeq (wPar [1, 2] (wCons (wC (.int 0)) (wCons (wC (.int 0)) wNil)))
  (wSeq (wPar [3, 4] (wCons (wLoc (wLst wNil)) (wCons (wLoc (wLst wNil)) wNil)))
  (wSeq (wFor (.nm 5) (wIt (wVar 0)) (wSeq (wIfS (wAndT (wCmpT gIn (wVar 5) (wC (.str (S [45, 60])))) (wCmpT gEq (wVar 3) (wDat (wLst wNil)))) (wSeq (wAug gIAdd 1 (wC (.int 1)))
  (wDrop (wU uAppend (wVar 3) (wCons (wOp2 gSub (wC (.int 0)) (wVar 1)) wNil)))) wNext)
  (wSeq (wIfS (wAndT (wCmpT gIn (wVar 5) (wC (.str (S [35, 62])))) (wCmpT gEq (wVar 4) (wDat (wLst wNil)))) (wSeq (wDrop (wU uAppend (wVar 4) (wCons (wVar 2) wNil)))
  (wAug gIAdd 2 (wC (.int 1)))) wNext)
  (wIfS (wCmpT gEq (wVar 5) (wC (.str (S [45])))) (wDrop (wU0 uPop (wVar 3))) (wIfS (wCmpT gEq (wVar 5) (wC (.str (S [35])))) (wDrop (wU0 uPop (wVar 4))) (wIfS (wCmpT gEq (wVar 5) (wC (.str (S [60])))) (wDrop (wU uAppend (wVar 4) (wCons (wU0 uPop (wVar 3)) wNil))) (wIfS (wCmpT gEq (wVar 5) (wC (.str (S [62])))) (wDrop (wU uAppend (wVar 3) (wCons (wU0 uPop (wVar 4)) wNil))) (wDrop (wU uAppend (wVar 3) (wCons (wVar 5) wNil))))))))))
  (wRet (wTup (wCons (wVar 1) (wCons (wVar 2) (wCons (wVar 3) (wCons (wVar 4) wNil)))))))))
def F_far_run : FS := runF 6 w_far_run
def w_reach_of : WS := (wSeq (wDrop (wCall 1 F_check_keys (wCons (wVar 0) wNil)))
  (wRet (wSl gSl (wCall 1 F_far_run (wCons (wVar 0) wNil)) wNo (wPart (wC (.int 2))))))
def F_reach_of : FS := runF 1 w_reach_of
def w_effect_of : WS := (wSeq (wUnp [1, 2, 3, 4] (wCall 1 F_far_run (wCons (wVar 0) wNil)))
  (wRet (wTup (wCons (wVar 1) (wCons (wVar 2) (wCons (wB gTuple (wCons (wOp2 gAdd (wVar 3) (wDat (wRevL (wVar 4)))) wNil)) (wCons (wB gLen (wCons (wVar 3) wNil)) wNil)))))))
def F_effect_of : FS := runF 5 w_effect_of
def w_far_effect : WS := (wSeq (wDrop (wCall 1 F_check_keys (wCons (wVar 0) wNil)))
  (wRet (wCall 1 F_effect_of (wCons (wVar 0) wNil))))
def F_far_effect : FS := runF 1 w_far_effect
def w_Editor_state_behind : WS := (wRet (wCall 3 F_step_key (wCons (wOp2 gIx (wVar 1) (wC (.int 0))) (wCons (wOp2 gIx (wVar 1) (wC (.int 1))) (wCons (wVar 2) wNil)))))
def F_Editor_state_behind : FS := runF 3 w_Editor_state_behind
def w_Editor_check_meeting : WS := wNext
def F_Editor_check_meeting : FS := runF 4 w_Editor_check_meeting
def w_Editor_state_afterc : WS := (wSeq (wFor (.nm 2) (wIt (wVar 1)) (wDrop (wCall 1 F_check_keys (wCons (wVar 2) wNil))))
  (wSeq (wSet 3 (wFld ["Editor"] 0 (wVar 0)))
  (wSeq (wFor (.tp [4, 5]) (wEnumS (wCons (wM "str" mJoin (wC (.str (S []))) (wCons (wVar 1) wNil)) wNil)) (wSeq (wSet 6 (wMeth [("Editor", F_Editor_state_behind)] 3 (wVar 0) (wCons (wVar 3) (wCons (wVar 5) wNil))))
  (wSeq (wDrop (wMeth [("Editor", F_Editor_check_meeting)] 4 (wVar 0) (wCons (wVar 3) (wCons (wVar 6) (wCons (wOp2 gAdd (wVar 4) (wC (.int 1))) wNil)))))
  (wSet 3 (wVar 6)))))
  (wRet (wVar 3)))))
def F_Editor_state_afterc : FS := runF 7 w_Editor_state_afterc
def w_Editor_press_all : WS := (wSeq (wSet 2 (wMeth [("Editor", F_Editor_state_afterc)] 2 (wVar 0) (wCons (wVar 1) wNil)))
  (wSeq (wDrop (wAppF 0 1 0 ["Editor"]))
  (wSeq (wAsg1 (.at 0 0 ["Editor"]) (wVar 2))
  (wRet (wB gLen (wCons (wOp2 gIx (wVar 2) (wC (.int 1))) wNil))))))
def F_Editor_press_all : FS := runF 3 w_Editor_press_all
def w_Editor_press : WS := (wRet (wMethV [("Editor", F_Editor_press_all)] (wVar 0) (wCons (wVar 1) wNil)))
def F_Editor_press : FS := runF 2 w_Editor_press
def w_Editor___init__ : WS := (wSeq (wDrop (wCall 1 F_check_text (wCons (wVar 1) wNil)))
  (wSeq (wDrop (wCall 2 F_check_cursors (wCons (wVar 1) (wCons (wVar 2) wNil))))
  (wSeq (wAsg1 (.at 0 0 ["Editor"]) (wTup (wCons (wVar 1) (wCons (wVar 2) wNil))))
  (wOwnL 0 1 ["Editor"] (wLst wNil)))))
def F_Editor___init__ : FS := runF 3 w_Editor___init__
def w_Editor_text_now : WS := (wRet (wOp2 gIx (wFld ["Editor"] 0 (wVar 0)) (wC (.int 0))))
def F_Editor_text_now : FS := runF 1 w_Editor_text_now
def w_Editor_cursors_now : WS := (wRet (wOp2 gIx (wFld ["Editor"] 0 (wVar 0)) (wC (.int 1))))
def F_Editor_cursors_now : FS := runF 1 w_Editor_cursors_now
def w_law_letters : WS := (wSeq (wSet 2 (wC (.str (S [65, 66, 67, 68, 69, 70, 71, 72, 73, 74, 75, 76, 77, 78, 79, 80, 81, 82, 83, 84, 85, 86, 87, 88, 89, 90, 97, 98, 99]))))
  (wRet (wM "str" mJoin (wC (.str (S []))) (wCons (wDat (wLc (.nm 3) (wRng rng1 (wCons (wVar 1) wNil)) wYes (wOp2 gIx (wVar 2) (wCall 2 F_law_draw (wCons (wVar 0) (wCons (wC (.int 29)) wNil)))) [3])) wNil))))
def F_law_letters : FS := runF 4 w_law_letters
def w_law_text : WS := (wSeq (wSet 4 (wLoc (wLst (wCons (wVar 1) wNil))))
  (wSeq (wFor (.nm 5) (wIt (wVar 2)) (wDrop (wU uAppend (wVar 4) (wCons (wOp2 gAdd (wOp2 gIx (wVar 4) (wOp1 gNeg (wC (.int 1)))) (wVar 5)) wNil))))
  (wRet (wDat (wLst (wCons (wCall 2 F_law_letters (wCons (wVar 0) (wCons (wOp2 gAdd (wOp2 gIx (wVar 4) (wOp1 gNeg (wC (.int 1)))) (wVar 3)) wNil))) (wCons (wB gTuple (wCons (wVar 4) wNil)) wNil)))))))
def F_law_text : FS := runF 6 w_law_text
def w_law_alone : WS := (wSeq (wUnp [3, 4, 5, 6] (wVar 2))
  (wSeq (wPar [7, 8, 9] (wCons (wC (.str (S []))) (wCons (wLoc (wLst wNil)) (wCons (wC (.int 0)) wNil))))
  (wSeq (wFor (.nm 10) (wIt (wVar 1)) (wSeq (wSet 7 (wOp2 gAdd (wVar 7) (wSl gSl (wVar 0) (wPart (wVar 9)) (wPart (wOp2 gSub (wVar 10) (wVar 3))))))
  (wSeq (wDrop (wU uAppend (wVar 8) (wCons (wOp2 gAdd (wB gLen (wCons (wVar 7) wNil)) (wVar 6)) wNil)))
  (wSeq (wFor (.nm 11) (wIt (wVar 5)) (wSet 7 (wOp2 gAdd (wVar 7) (wIf (wTru (wIsi "str" (wVar 11))) (wVar 11) (wOp2 gIx (wVar 0) (wOp2 gAdd (wVar 10) (wVar 11)))))))
  (wSet 9 (wOp2 gAdd (wVar 10) (wVar 4)))))))
  (wRet (wTup (wCons (wOp2 gAdd (wVar 7) (wSl gSl (wVar 0) (wPart (wVar 9)) wNo)) (wCons (wB gTuple (wCons (wVar 8) wNil)) wNil)))))))
def F_law_alone : FS := runF 12 w_law_alone
def w_law_far_right_v1 : WS := (wSeq (wUnp [2, 3] (wCall 1 F_reach_of (wCons (wVar 1) wNil)))
  (wSeq (wSet 4 (wB gMax (wCons (wOp2 gAdd (wVar 2) (wVar 3)) (wCons (wOp2 gAdd (wCall 1 F_depth_of (wCons (wVar 1) wNil)) (wC (.int 1))) wNil))))
  (wSeq (wSet 5 (wDat (wLc (.nm 10) (wRng rng1 (wCons (wCall 2 F_law_draw (wCons (wVar 0) (wCons (wC (.int 6)) wNil))) wNil)) wYes (wOp2 gAdd (wVar 4) (wCall 2 F_law_draw (wCons (wVar 0) (wCons (wC (.int 3)) wNil)))) [10])))
  (wSeq (wUnpL [6, 7] (wCall 4 F_law_text (wCons (wVar 0) (wCons (wOp2 gAdd (wVar 2) (wCall 2 F_law_draw (wCons (wVar 0) (wCons (wC (.int 4)) wNil)))) (wCons (wVar 5) (wCons (wOp2 gAdd (wVar 3) (wCall 2 F_law_draw (wCons (wVar 0) (wCons (wC (.int 4)) wNil)))) wNil))))))
  (wSeq (wSet 8 (wCall 3 F_law_alone (wCons (wVar 6) (wCons (wVar 7) (wCons (wCall 1 F_far_effect (wCons (wVar 1) wNil)) wNil)))))
  (wSeq (wSet 9 (wMake "Editor" 3 F_Editor___init__ (wCons (wVar 6) (wCons (wVar 7) wNil))))
  (wSeq (wDrop (wMeth [("Editor", F_Editor_press)] 2 (wVar 9) (wCons (wVar 1) wNil)))
  (wRet (wAndV (wCmp gEq (wCall 3 F_pressed (wCons (wVar 6) (wCons (wVar 7) (wCons (wVar 1) wNil)))) (wVar 8)) (wCmp gEq (wTup (wCons (wProp [("Editor", F_Editor_text_now)] (wVar 9)) (wCons (wProp [("Editor", F_Editor_cursors_now)] (wVar 9)) wNil))) (wVar 8)))))))))))
def F_law_far_right_v1 : FS := runF 11 w_law_far_right_v1
def w_law_near_right : WS := (wSeq (wPar [2, 3] (wCons (wCall 1 F_depth_of (wCons (wVar 1) wNil)) (wCons (wB gLen (wCons (wVar 1) wNil)) wNil)))
  (wSeq (wSet 4 (wDat (wLc (.nm 9) (wRng rng1 (wCons (wCall 2 F_law_draw (wCons (wVar 0) (wCons (wC (.int 9)) wNil))) wNil)) wYes (wOp2 gAdd (wC (.int 1)) (wCall 2 F_law_draw (wCons (wVar 0) (wCons (wOp2 gAdd (wVar 2) (wC (.int 2))) wNil)))) [9])))
  (wSeq (wUnpL [5, 6] (wCall 4 F_law_text (wCons (wVar 0) (wCons (wOp2 gAdd (wVar 3) (wCall 2 F_law_draw (wCons (wVar 0) (wCons (wC (.int 3)) wNil)))) (wCons (wVar 4) (wCons (wOp2 gAdd (wVar 3) (wCall 2 F_law_draw (wCons (wVar 0) (wCons (wC (.int 3)) wNil)))) wNil))))))
  (wSeq (wSet 7 (wCall 3 F_pressed (wCons (wVar 5) (wCons (wVar 6) (wCons (wVar 1) wNil)))))
  (wSeq (wSet 8 (wB gTuple (wCons (wDat (wLc (.nm 10) (wIt (wVar 4)) (wCmpT gGt (wVar 10) (wVar 2)) (wOp2 gAdd (wVar 10) (wCall 1 F_net_of (wCons (wVar 1) wNil))) [10])) wNil)))
  (wRet (wCmp gEq (wOp2 gIx (wCall 2 F_layout_of (wCons (wOp2 gIx (wVar 7) (wC (.int 0))) (wCons (wOp2 gIx (wVar 7) (wC (.int 1))) wNil))) (wC (.int 1))) (wVar 8))))))))
def F_law_near_right : FS := runF 11 w_law_near_right
def w_law_k51 : WS := (wSeq (wFor (.nm 1) (wRng rng1 (wCons (wB gMax (wCons (wC (.int 1)) (wCons (wB gMin (wCons (wC (.int 6)) (wCons (wScrLen (wVar 0)) wNil))) wNil))) wNil)) (wSeq (wSet 2 (wCall 2 F_law_pool (wCons (wVar 0) (wCons (wVar 1) wNil))))
  (wFor (.nm 3) (wRng rng1 (wCons (wC (.int 4)) wNil)) (wSeq (wSet 4 (wCall 2 F_law_strokes (wCons (wVar 2) (wCons (wC (.int 16)) wNil))))
  (wIfS (wOrT (wNotT (wTru (wCall 2 F_law_far_right_v1 (wCons (wVar 2) (wCons (wVar 4) wNil))))) (wNotT (wTru (wCall 2 F_law_near_right (wCons (wVar 2) (wCons (wVar 4) wNil)))))) (wRet (wC (.bool false))) wNext)))))
  (wRet (wCmp gEq (wCall 3 F_pressed (wCons (wC (.str (S [97, 98, 99, 100]))) (wCons (wTup (wCons (wC (.int 1)) (wCons (wC (.int 3)) wNil))) (wCons (wC (.str (S [45, 120]))) wNil)))) (wTup (wCons (wC (.str (S [120, 98, 120, 100]))) (wCons (wTup (wCons (wC (.int 1)) (wCons (wC (.int 3)) wNil))) wNil))))))
def F_law_k51 : FS := runF 5 w_law_k51
end Dl

/-! plain laws: the text of data fits -/
namespace Dl
open PySem
open PySem.Spec
open PyProof.Rows
open L2
/-- data of small height and weight, its numbers below 10^60 -/
def Fit (h w : Nat) (d : D) : Prop := d.canLay0 = true ∧ d.depth ≤ h ∧ d.showable = true ∧ d.leavesShort 70 = true ∧ d.weight ≤ w
theorem Fit.mono {h w h' w' : Nat} {d : D} (f : Fit h w d) (h1 : h ≤ h') (h2 : w ≤ w') : Fit h' w' d := ⟨f.1, Nat.le_trans f.2.1 h1, f.2.2.1, f.2.2.2.1, Nat.le_trans f.2.2.2.2 h2⟩
theorem fit_int {i : Int} (h : i.natAbs < 10 ^ 60) : Fit 0 200 (.int i) := by
  have h2 : i.natAbs.log2 < 200 := by
    by_cases hz : i.natAbs = 0
    · rw [hz]
      decide
    · rw [Nat.log2_lt hz]
      exact Nat.lt_trans h (by decide)
  refine ⟨by simp [PyData.canLay0], by simp [PyData.depth], ?_, ?_, ?_⟩
  · simp only [PyData.showable, decide_eq_true_eq]
    omega
  · simp only [PyData.leavesShort, decide_eq_true_eq]
    have e := int_text_length_le10 (k := 60) (by decide) h
    show (Str.ofString (toString i)).length ≤ 70
    rw [PySem.ofString_length]
    omega
  · simp only [PyData.weight]
    split <;> omega
theorem fit_str {l : List Nat} (h : ∀ c ∈ l, c < 0x110000) : Fit 0 l.length (.str (S l)) := by
  have h1 : PyData.strOk (S l) = true := by
    show l.toArray.all _ = true
    rw [Array.all_eq_true_iff_forall_mem]
    intro c hc
    have := h c (by simpa using hc)
    simpa using this
  refine ⟨by simp only [PyData.canLay0]; exact h1, by simp [PyData.depth], by simp [PyData.showable], ?_, by simp [PyData.weight]⟩
  simp only [PyData.leavesShort, List.all_eq_true, decide_eq_true_eq]
  intro c hc
  have := h c (by simpa using hc)
  have e : (16 : Nat) ^ 8 = 4294967296 := by decide
  omega
theorem fit_all {h w : Nat} : ∀ {ds : List D}, (∀ d ∈ ds, Fit h w d) → PyData.canLayAll0 ds = true ∧ PyData.depthAll ds ≤ h ∧ PyData.showableAll ds = true ∧ PyData.leavesShortAll 70 ds = true ∧ PyData.weightAll ds ≤ ds.length * (w + 1)
  | [], _ => ⟨by simp [PyData.canLayAll0], by simp [PyData.depthAll], by simp [PyData.showableAll], by simp [PyData.leavesShortAll], by simp [PyData.weightAll]⟩
  | d :: ds, hd => by
    obtain ⟨a1, a2, a3, a4, a5⟩ := hd d (by simp)
    obtain ⟨b1, b2, b3, b4, b5⟩ := fit_all (ds := ds) fun e he => hd e (List.mem_cons_of_mem _ he)
    refine ⟨by simp [PyData.canLayAll0, a1, b1], ?_, by simp [PyData.showableAll, a3, b3], by simp [PyData.leavesShortAll, a4, b4], ?_⟩
    · simp only [PyData.depthAll]
      omega
    · simp only [PyData.weightAll, List.length_cons, Nat.add_mul, Nat.one_mul]
      omega
theorem fit_list {h w n : Nat} {ds : List D} (hd : ∀ d ∈ ds, Fit h w d) (hn : ds.length ≤ n) : Fit (h + 1) (n * (w + 1)) (.list ds) := by
  obtain ⟨b1, b2, b3, b4, b5⟩ := fit_all hd
  refine ⟨by simp [PyData.canLay0, b1], by simp only [PyData.depth]; omega, by simp [PyData.showable, b3], by simp [PyData.leavesShort, b4], ?_⟩
  simp only [PyData.weight]
  exact Nat.le_trans b5 (Nat.mul_le_mul_right _ hn)
theorem fit_tup {h w n : Nat} {ds : List D} (hd : ∀ d ∈ ds, Fit h w d) (hn : ds.length ≤ n) : Fit (h + 1) (n * (w + 1)) (.tuple ds) := by
  obtain ⟨b1, b2, b3, b4, b5⟩ := fit_all hd
  refine ⟨by simp [PyData.canLay0, b1], by simp only [PyData.depth]; omega, by simp [PyData.showable, b3], by simp [PyData.leavesShort, b4], ?_⟩
  simp only [PyData.weight]
  exact Nat.le_trans b5 (Nat.mul_le_mul_right _ hn)
theorem Fit.shp {h w : Nat} {d : D} (f : Fit h w d) (hh : h ≤ 64) : shp d = true := by
  show (d.canLay0 && decide (d.depth ≤ 64)) = true
  rw [f.1, decide_eq_true (by have := f.2.1; omega)]
  rfl
theorem Fit.repr {h w : Nat} {d : D} {k : D → Prop} (f : Fit h w d) (hh : h ≤ 64) (hw : w ≤ 200000) (q : k (.str d.shown)) : gRepr [d] k := by
  refine ⟨f.shp hh, f.2.2.1, ?_, q⟩
  have := PyData.shown_le 70 (by decide) d f.2.2.2.1
  have h2 : 72 * d.weight ≤ 72 * 200000 := Nat.mul_le_mul_left _ (Nat.le_trans f.2.2.2.2 hw)
  rw [sizeLine_eq]
  omega
mutual
theorem eqv_refl : ∀ {d : D}, d.canLay0 = true → PyData.eqv d d = true
  | .none, _ => by simp [PyData.eqv]
  | .bool b, _ => by simp [PyData.eqv]
  | .int i, _ => by simp [PyData.eqv]
  | .str s, _ => by simp [PyData.eqv]
  | .list ds, h => by
    simp only [PyData.eqv]
    exact eqvAll_refl (by simpa [PyData.canLay0] using h)
  | .tuple ds, h => by
    simp only [PyData.eqv]
    exact eqvAll_refl (by simpa [PyData.canLay0] using h)
  | .dict _, h => by simp [PyData.canLay0] at h
theorem eqvAll_refl : ∀ {ds : List D}, PyData.canLayAll0 ds = true → PyData.eqvAll ds ds = true
  | [], _ => by simp [PyData.eqvAll]
  | d :: ds, h => by
    have h' : (d.canLay0 && PyData.canLayAll0 ds) = true := by simpa [PyData.canLayAll0] using h
    rw [Bool.and_eq_true] at h'
    simp only [PyData.eqvAll, eqv_refl h'.1, eqvAll_refl h'.2, Bool.and_self]
end
theorem Fit.eq {h w : Nat} {d : D} {k : Bool → Prop} (f : Fit h w d) (hh : h ≤ 64) (q : k true) : gEq d d k := by
  cases d with
  | str z =>
    show k (z == z)
    simpa using q
  | _ =>
    refine ⟨f.shp hh, f.shp hh, ?_⟩
    rw [show eqd _ _ = true from eqv_refl f.1]
    exact q
end Dl

/-! plain laws, part 1: keys, forms, the law's own tools -/
namespace Dl
open PySem
open PySem.Spec
open PyProof.Rows
open L2
abbrev KS := R → Sto → Prop
abbrev XS0 := Exn → Sto → Prop
def isKeyB (c : Nat) : Bool := decide (c ∈ low) || (decide (c = 45) || (decide (c = 35) || (decide (c = 60) || decide (c = 62))))
section
variable {st : Sto} {k : KS} {x : XS0}
theorem r_is_key {c : Nat} (h : k (.d (.bool (isKeyB c))) st) : F_is_key [.d (.str (S [c]))] st k x := by
  have h4 : 4 ≤ sizeLine := sz (by decide)
  simp [F_is_key, e_run, w_is_key, g_inT4, h4]
  unfold isKeyB at h
  by_cases hc : c ∈ low
  · simpa [hc] using h
  · simpa [hc] using h
theorem join_nil : ∀ l : List Nat, Txt.join (S []) (l.map fun c => S [c]) = S l := by
  intro l
  rw [TL.join_eq]
  have go : ∀ l : List Nat, Str.join (S []) (l.map fun c => S [c]) = S l := by
    intro l
    induction l with
    | nil => rfl
    | cons c l ih =>
      cases l with
      | nil => rfl
      | cons d l =>
        show S [c] ++ S [] ++ Str.join (S []) ((d :: l).map fun c => S [c]) = _
        rw [ih, S_app, S_app]
        rfl
  exact go l
theorem r_is_keys {row : List Nat} (hz : row.length ≤ 1000000) (h : k (.d (.bool (row.all isKeyB))) st) : F_is_keys [.d (.str (S row))] st k x := by
  simp [F_is_keys, e_run, w_is_keys, signs_S]
  try simp
  refine lc1y (α := Nat) sign (fun c => .bool (isKeyB c)) rfl (fun c _ K X hK => ?_) (sz hz) ?_
  · simp [sign_S]
    exact r_is_key hK
  · try simp
    rw [g_all (boolsD_map isKeyB row)]
    simpa using h
theorem r_check_keys {row : List Nat} (hz : row.length ≤ 1000000) (h : if row.all isKeyB = true then k (.d .none) st else x ⟨"InvalidKeys", []⟩ st) : F_check_keys [.d (.str (S row))] st k x := by
  simp [F_check_keys, e_run, w_check_keys]
  try simp
  refine r_is_keys hz ?_
  revert h
  generalize row.all isKeyB = b
  intro h
  cases b <;> simpa using h
def isMove (c : Nat) : Bool := decide (c = 60) || decide (c = 62)
/-! ### forms -/
/-! ### the script -/
/-! ### the same data -/
end
end Dl

/-! plain laws, part 2: draws -/
namespace Dl
open PySem
open PySem.Spec
open PyProof.Rows
open L2
/-- what a bag holds, at most m draws old -/
def Bag (m : Nat) (ds : List D) : Prop := ∃ a b c : Int, ds = [.int a, .int b, .int c] ∧ 0 ≤ b ∧ b ≤ 2 ^ 160 ∧ 0 ≤ c ∧ c ≤ m
section
variable {st : Sto} {k : KS} {x : XS0}
theorem log2_le {i : Int} {n : Nat} (h0 : 0 ≤ i) (h : i < 2 ^ n) (hn : n ≠ 0) : i.natAbs.log2 < n := by
  by_cases hz : i.natAbs = 0
  · rw [hz]
    simpa using Nat.pos_of_ne_zero hn
  · rw [Nat.log2_lt hz]
    have : ((i.natAbs : Nat) : Int) = i := by omega
    have h2 : ((i.natAbs : Nat) : Int) < ((2 ^ n : Nat) : Int) := by
      rw [this]
      simpa using h
    exact_mod_cast h2
/-! ### rows without moves -/
def Row (n : Nat) (l : List Nat) : Prop := l.length ≤ n ∧ ∀ c ∈ l, isKeyB c = true ∧ isMove c = false
theorem Row.keys {n : Nat} {l : List Nat} (h : Row n l) : l.all isKeyB = true := List.all_eq_true.mpr fun c hc => (h.2 c hc).1
theorem Row.moves {n : Nat} {l : List Nat} (h : Row n l) : l.any isMove = false := by
  rw [List.any_eq_false]
  intro c hc
  rw [(h.2 c hc).2]
  simp
theorem Row.add {n : Nat} {l : List Nat} (h : Row n l) {c : Nat} (hc : isKeyB c = true ∧ isMove c = false) : Row (n + 1) (l ++ [c]) := by
  refine ⟨?_, fun d hd => ?_⟩
  · have := h.1
    rw [List.length_append, List.length_singleton]
    omega
  · rcases List.mem_append.mp hd with hd | hd
    · exact h.2 d hd
    · rw [List.mem_singleton.mp hd]
      exact hc
theorem Row.mono {n m : Nat} {l : List Nat} (h : Row n l) (hm : n ≤ m) : Row m l := ⟨Nat.le_trans h.1 hm, h.2⟩
theorem Bag.mono {n m : Nat} {l : List D} (h : Bag n l) (hm : n ≤ m) : Bag m l := by
  obtain ⟨a, b, c, e, h1, h2, h3, h4⟩ := h
  exact ⟨a, b, c, e, h1, h2, h3, by omega⟩
end
/-- a store in which the bag at n has been drawn from, at most m times in all -/
def Dr (n m : Nat) (st0 st : Sto) : Prop := n < st0.length ∧ ∃ b, Bag m b ∧ st = st0.set n (some b)
section
variable {st st0 : Sto} {k : KS} {x : XS0} {n m : Nat}
theorem Dr.len (h : Dr n m st0 st) : st.length = st0.length := by
  obtain ⟨_, b, _, rfl⟩ := h
  simp
theorem Dr.take {st1 : Sto} {m' : Nat} (h : Dr n m' st0 st1) (h0 : Dr n m st0 st) : st1.take st.length = st1 := by
  rw [h0.len, ← h.len, List.take_length]
theorem Dr.start {b : List D} (hn : st0[n]? = some (some b)) (hb : Bag m b) : Dr n m st0 st0 := by
  have hl := (List.getElem?_eq_some_iff.mp hn)
  obtain ⟨h1, h2⟩ := hl
  refine ⟨h1, b, hb, ?_⟩
  rw [← h2, List.set_getElem_self]
theorem Dr.at (h : Dr n m st0 st) : ∃ b, Bag m b ∧ st[n]? = some (some b) := by
  obtain ⟨h1, b, hb, rfl⟩ := h
  exact ⟨b, hb, by rw [List.getElem?_set_self h1]⟩
theorem Dr.mono {m' : Nat} (h : Dr n m st0 st) (hm : m ≤ m') : Dr n m' st0 st := by
  obtain ⟨h1, b, hb, e⟩ := h
  exact ⟨h1, b, hb.mono hm, e⟩
theorem pick2 {P : Int → Prop} {a b i : Int} (h0 : 0 ≤ i) (h1 : i < 2) (ha : P a) (hb : P b) : ∃ c, atI [PyData.int a, PyData.int b] i = some (.int c) ∧ P c := by
  have : i = 0 ∨ i = 1 := by omega
  rcases this with rfl | rfl
  · exact ⟨a, rfl, ha⟩
  · exact ⟨b, rfl, hb⟩
/-- a list of ints, all of a kind -/
def IntsP (P : Int → Prop) (ds : List D) : Prop := ∃ is : List Int, ds = is.map .int ∧ ∀ i ∈ is, P i
theorem IntsP.nil {P : Int → Prop} : IntsP P [] := ⟨[], rfl, by simp⟩
theorem IntsP.add {P : Int → Prop} {ds : List D} {i : Int} (h : IntsP P ds) (hi : P i) : IntsP P (ds ++ [.int i]) := by
  obtain ⟨is, rfl, h⟩ := h
  refine ⟨is ++ [i], by simp, fun j hj => ?_⟩
  rcases List.mem_append.mp hj with hj | hj
  · exact h j hj
  · rw [List.mem_singleton.mp hj]
    exact hi
theorem IntsP.two {P : Int → Prop} {ds : List D} (h : IntsP P ds) (hl : ds.length = 2) : ∃ a b, ds = [.int a, .int b] ∧ P a ∧ P b := by
  obtain ⟨is, rfl, h⟩ := h
  match is, hl with
  | [a, b], _ => exact ⟨a, b, rfl, h a (by simp), h b (by simp)⟩
end
end Dl

/-! plain laws, part 3: forms, layouts, pieces -/
namespace Dl
open PySem
open PySem.Spec
open PyProof.Rows
open L2
structure Frm where
  back : Int
  word : List Nat
  ahead : Int
  depth : Int
structure Lay where
  before : Int
  gaps : List Int
  behind : Int
theorem cut_from {α : Type} {l : List α} {i : Int} (h : 0 ≤ i) : cut l (some i) none = l.drop i.toNat := by
  have e : HT.sIx l.length 0 (some i) = min i.toNat l.length := by
    show (if i < 0 then (i + (l.length : Int)).toNat else min i.toNat l.length) = _
    rw [if_neg (by omega)]
  unfold cut
  rw [HT.sIx_none, e]
  by_cases h2 : i.toNat ≤ l.length
  · rw [Nat.min_eq_left h2]
    exact List.take_of_length_le (by simp)
  · rw [Nat.min_eq_right (by omega), List.drop_length, List.drop_eq_nil_of_le (by omega)]
    simp
section
variable {st : Sto} {k : KS} {x : XS0}
theorem r_is_integer2 {i lo hi : Int} (h : k (.d (.bool (decide (lo ≤ i ∧ i ≤ hi)))) st) : F_is_integer [.d (.int i), .d (.int lo), .d (.int hi)] st k x := by
  simp [F_is_integer, e_run, w_is_integer, gIs]
  by_cases h1 : lo ≤ i
  · simpa [h1] using h
  · simpa [h1] using h
theorem all_true {α : Type} {l : List α} {p : α → Bool} (h : ∀ a ∈ l, p a = true) : (l.map p).all id = true := by
  rw [List.all_map]
  exact List.all_eq_true.mpr h
/-! ### pieces -/
structure Pc where
  lo : Int
  n : Int
  w : List Nat
def gapPiece (f : Frm) (g : Int) : Pc := if f.ahead < g - f.back then ⟨f.ahead, g - f.back - f.ahead, f.word⟩ else ⟨0, 0, f.word.drop (f.ahead - (g - f.back)).toNat⟩
def pieces (l : Lay) (f : Frm) : List Pc := ⟨0, max 0 (l.before - f.back), f.word⟩ :: ((l.gaps.filter fun g => decide (f.depth < g)).map (gapPiece f) ++ [⟨if f.ahead < l.behind then f.ahead else 0, max 0 (l.behind - f.ahead), []⟩])
end
end Dl

/-! plain laws, part 4: pools -/
namespace Dl
open PySem
open PySem.Spec
open PyProof.Rows
open L2
section
variable {st st0 : Sto} {k : KS} {x : XS0} {n m : Nat}
theorem small_log {i : Int} (h0 : 0 ≤ i) (h : i < 2 ^ 200) : i.natAbs.log2 < 200 := log2_le h0 h (by decide)
theorem r_law_pool {ns : List Int} {j : Nat} (hj : j ≤ 1000) (h : ∀ b, Bag 0 b → k (.l st.length) (st ++ [some b])) : F_law_pool [.o (.scr ns), .d (.int j)] st k x := by
  have go : ∀ c : Int, Bag 0 [.int (max 0 ((if c < 0 then -c else c) - 1000000000000000000)), .int (c % 10000000000000000000000000000000000000121 * 89 + 31 * j + 7), .int 0] := fun c => by
    refine ⟨_, _, _, rfl, ?_, ?_, by omega, by omega⟩
    · omega
    · have : (10000000000000000000000000000000000000121 : Int) * 89 + 31 * 1000 + 7 ≤ 2 ^ 160 := by decide
      omega
  have e1 : ((31 : Int) * j).natAbs.log2 < 200 := small_log (by omega) (by omega)
  have gA : ∀ (i : Int) (kk : D → Prop), gAbs [.int i] kk = kk (.int (if i < 0 then -i else i)) := fun _ _ => rfl
  have l1 : j.log2 < 200 := by
    have := small_log (i := (j : Int)) (by omega) (by omega)
    simpa using this
  have l2 : (10 : Nat).log2 < 200 := by decide
  have l3 : (89 : Nat).log2 < 200 := by decide
  have l4 : (31 : Nat).log2 < 200 := by decide
  simp [F_law_pool, e_run, w_law_pool, sizeLine_eq]
  by_cases hjn : j < ns.length
  · rw [if_pos hjn, List.getElem?_eq_getElem hjn]
    have l5 : (ns[j] % 10000000000000000000000000000000000000121).natAbs.log2 < 200 := small_log (by omega) (by omega)
    simp [gA]
    exact ⟨by omega, by omega, by omega, h _ (go ns[j])⟩
  · rw [if_neg hjn]
    simp [gA]
    have := go 0
    simp at this
    exact ⟨by omega, by omega, by omega, h _ this⟩
theorem r_law_draw {lim : Int} (hd : Dr n m st0 st) (hm : m ≤ 1000000) (h0 : 0 < lim) (h1 : lim < 2 ^ 200) (h : ∀ st' (i : Int), Dr n (m + 1) st0 st' → 0 ≤ i → i < lim → k (.d (.int i)) st') : F_law_draw [.l n, .d (.int lim)] st k x := by
  obtain ⟨b0, hb, hn⟩ := hd.at
  obtain ⟨a, b, c, rfl, hb0, hb1, hc0, hc1⟩ := hb
  have hl : n < st.length := (List.getElem?_eq_some_iff.mp hn).1
  have fin : ∀ (i : Int) (b' : List D), Bag (m + 1) b' → k (.d (.int (i % lim))) (st.set n (some b')) := fun i b' hb' => by
    refine h _ _ ⟨hd.1, b', hb', ?_⟩ (Int.emod_nonneg _ (by omega)) (Int.emod_lt_of_pos _ h0)
    obtain ⟨_, b0, _, rfl⟩ := hd
    rw [List.set_set]
  have lg : lim.natAbs.log2 < 9000 := Nat.lt_trans (small_log (by omega) h1) (by decide)
  simp [F_law_draw, e_run, w_law_draw, e_lstAt hn, g_ixL, e_lstSet hl]
  by_cases ha : 0 < a
  · rw [if_pos ha]
    exact ⟨h0, ⟨h0, lg⟩, fin _ _ ⟨_, _, _, rfl, hb0, hb1, hc0, by omega⟩⟩
  · rw [if_neg ha]
    have c20 : (c + 1).natAbs.log2 < 200 := small_log (by omega) (by omega)
    have l1 : (472882027 : Nat).log2 < 200 := by decide
    have l2 : (86028121 : Nat).log2 < 200 := by decide
    have l3 : (b + 472882027 * (c + 1)).natAbs.log2 < 200 := small_log (by omega) (by omega)
    have l5 : (10 : Nat).log2 < 200 := by decide
    have l4 : ((b + 472882027 * (c + 1)) ^ 3 % 100000000000000000000000000000000000000037 + 86028121 * (c + 1)).natAbs.log2 < 200 := by
      generalize (b + 472882027 * (c + 1)) ^ 3 = y
      exact small_log (by omega) (by omega)
    exact ⟨by omega, by omega, by omega, by omega, by omega, by omega, by decide, h0, fin _ _ ⟨_, _, _, rfl, hb0, hb1, by omega, by omega⟩⟩
/-- any text of drawn strokes -/
theorem pickL {P : List Nat → Prop} {L : List (List Nat)} (hP : ∀ l ∈ L, P l) {i : Int} (h0 : 0 ≤ i) (h1 : i < L.length) : ∃ l, atI (L.map fun l => PyData.str (S l)) i = some (.str (S l)) ∧ P l := by
  obtain ⟨N, rfl⟩ : ∃ N : Nat, i = N := ⟨i.toNat, by omega⟩
  have hN : N < L.length := by omega
  refine ⟨L[N], ?_, hP _ (List.getElem_mem hN)⟩
  rw [atI_cast, List.getElem?_map, List.getElem?_eq_getElem hN]
  rfl
theorem pickS {P : Nat → Prop} {L : List Nat} (hP : ∀ l ∈ L, P l) {i : Int} (h0 : 0 ≤ i) (h1 : i < L.length) : ∃ l, atI L i = some l ∧ P l := by
  obtain ⟨N, rfl⟩ : ∃ N : Nat, i = N := ⟨i.toNat, by omega⟩
  have hN : N < L.length := by omega
  exact ⟨L[N], by rw [atI_cast, List.getElem?_eq_getElem hN], hP _ (List.getElem_mem hN)⟩
def KeyRow (n : Nat) (l : List Nat) : Prop := l.length ≤ n ∧ ∀ c ∈ l, isKeyB c = true
def strokeSets : List (List Nat) := [[97, 98, 45, 35], [60, 62, 45, 35], [120, 45, 35, 60, 62], [60, 62, 97], [45], [35], [97, 98, 99, 100, 101, 102, 103, 104, 105, 106, 107, 108, 109, 110, 111, 112, 113, 114, 115, 116, 117, 118, 119, 120, 121, 122, 45, 35, 60, 62]]
theorem strokeSets_ok : ∀ l ∈ strokeSets, l ≠ [] ∧ l.length ≤ 30 ∧ ∀ c ∈ l, isKeyB c = true := by decide
theorem r_law_strokes {top : Nat} (hd : Dr n m st0 st) (hm : m ≤ 900000) (ht : top ≤ 1000) (h : ∀ st' row, Dr n (m + top + 10) st0 st' → KeyRow (top + 5) row → k (.d (.str (S row))) st') : F_law_strokes [.l n, .d (.int top)] st k x := by
  simp [F_law_strokes, e_run, w_law_strokes, sizeLine_eq]
  refine r_law_draw hd (by omega) (by decide) (by decide) fun st1 i1 hd1 hi1 hj1 => ?_
  try simp
  obtain ⟨sg, hsg, hs1, hs2, hs3⟩ := pickL strokeSets_ok hi1 (by simpa [strokeSets] using hj1)
  simp only [strokeSets, List.map_cons, List.map_nil] at hsg
  rw [g_ixLs hsg]
  try simp
  refine r_law_draw hd1 (by omega) (by decide) (by decide) fun st2 i2 hd2 hi2 hj2 => ?_
  try simp
  refine r_law_draw hd2 (by omega) (by omega) (by omega) fun st3 i3 hd3 hi3 hj3 => ?_
  try simp
  refine r_law_draw hd3 (by omega) (by decide) (by decide) fun st4 i4 hd4 hi4 hj4 => ?_
  try simp
  obtain ⟨c, hc, hp⟩ := pick2 (P := fun i => 0 ≤ i ∧ i ≤ top + 5) (a := i2) (b := i3) hi4 hj4 ⟨hi2, by omega⟩ ⟨hi3, by omega⟩
  rw [g_ixLs hc]
  try simp
  obtain ⟨N, rfl⟩ : ∃ N : Nat, c = N := ⟨c.toNat, by omega⟩
  refine ⟨by omega, by omega, ?_⟩
  have h9 : Dr n (m + 4) st0 st4 := hd4.mono (by omega)
  have hsl : 0 < sg.length := List.length_pos_iff.mpr hs1
  refine lcI (α := Nat) (fun i => .int (0 + i)) (fun l acc st' => acc.length + l.length = N ∧ (∃ ws : List Nat, acc = ws.map (fun c => .str (S [c])) ∧ ∀ c ∈ ws, isKeyB c = true) ∧ Dr n (m + 4 + acc.length) st0 st') (fun a1 l acc st1 K X hI hK => ?_) (l := List.range N) rfl (by simp [sizeLine_eq]; omega) ⟨by simp, ⟨[], rfl, by simp⟩, by simpa using h9⟩ (fun acc st1 hI => ?_)
  · obtain ⟨q1, ⟨ws, rfl, q2⟩, q3⟩ := hI
    simp at q1 q3
    simp [g_lenS, sizeLine_eq]
    refine ⟨by omega, ?_⟩
    refine r_law_draw q3 (by omega) (by omega) (by omega) fun st5 i5 hd5 hi5 hj5 => ?_
    simp [g_ixS, sizeLine_eq]
    refine ⟨by omega, ?_⟩
    obtain ⟨c, hc, hl⟩ := pickS hs3 hi5 hj5
    rw [hc]
    have := hK (.str (S [c])) st5 ⟨by simp; omega, ⟨ws ++ [c], by simp, fun d hd => ?_⟩, hd5.mono (by simp; omega)⟩
    · simpa using this
    · rcases List.mem_append.mp hd with hd | hd
      · exact q2 d hd
      · rw [List.mem_singleton.mp hd]
        exact hl
  · obtain ⟨q1, ⟨ws, rfl, q2⟩, q3⟩ := hI
    simp at q1 q3
    try simp
    rw [mJ (strsD_map (fun c => S [c]) ws), sum_ones, join_nil]
    refine ⟨by simp; omega, ?_⟩
    try simp
    rw [q3.take hd]
    exact h _ _ (q3.mono (by omega)) ⟨by omega, q2⟩
end
end Dl

/-! plain law k01 -/
namespace Dl
open PySem
open PySem.Spec
open PyProof.Rows
open L2
section
variable {st st0 : Sto} {k : KS} {x : XS0} {n m : Nat}
theorem low_iff (c : Nat) : c ∈ low ↔ 97 ≤ c ∧ c ≤ 122 := by
  constructor
  · intro h
    have : ∀ c ∈ low, 97 ≤ c ∧ c ≤ 122 := by decide
    exact this c h
  · rintro ⟨h1, h2⟩
    have : ∀ i, i < 26 → 97 + i ∈ low := by decide
    have := this (c - 97) (by omega)
    rwa [show 97 + (c - 97) = c by omega] at this
def Good (d : D) : Prop := match d with
  | .str z => z.cps.toList.length ≤ 1000000 ∧ ∀ c ∈ z.cps.toList, c < 0x110000
  | _ => True
theorem g_eqNil {xs : List D} {kb : Bool → Prop} {h w : Nat} (f : Fit h w (.list xs)) (hh : h ≤ 64) (q : kb xs.isEmpty) : gEq (.list xs) (.list []) kb := by
  refine ⟨f.shp hh, ?_, ?_⟩
  · show (PyData.canLay0 (.list []) && decide ((PyData.list []).depth ≤ 64)) = true
    simp [PyData.canLay0, PyData.canLayAll0, PyData.depth, PyData.depthAll]
  · have e : eqd (.list xs) (.list []) = xs.isEmpty := by
      show PyData.eqv _ _ = _
      cases xs <;> simp [PyData.eqv, PyData.eqvAll]
    rw [e]
    exact q
theorem cut_mem {α : Type} {l : List α} {lo hi : Option Int} {c : α} (h : c ∈ cut l lo hi) : c ∈ l := List.mem_of_mem_drop (List.mem_of_mem_take h)
theorem cut_len {α : Type} {l : List α} {lo hi : Option Int} : (cut l lo hi).length ≤ l.length := by
  unfold cut
  rw [List.length_take, List.length_drop]
  omega
def GS1 (n : Nat) (l : List Nat) : Prop := l.length ≤ n ∧ ∀ c ∈ l, c < 0x110000
theorem GS1.good {n : Nat} {l : List Nat} (h : GS1 n l) (hn : n ≤ 1000000) : Good (.str (S l)) := ⟨Nat.le_trans (by simpa using h.1) hn, by simpa using h.2⟩
theorem GS1.cut {n : Nat} {l : List Nat} {lo hi : Option Int} (h : GS1 n l) : GS1 n (cut l lo hi) := ⟨Nat.le_trans cut_len h.1, fun c hc => h.2 c (cut_mem hc)⟩
theorem GS1.app {n m : Nat} {l r : List Nat} (h : GS1 n l) (q : GS1 m r) : GS1 (n + m) (l ++ r) := ⟨by rw [List.length_append]; have := h.1; have := q.1; omega, fun c hc => (List.mem_append.mp hc).elim (h.2 c) (q.2 c)⟩
theorem key_small {c : Nat} (h : isKeyB c = true) : c < 0x110000 := by
  simp [isKeyB, low_iff] at h
  omega
theorem KeyRow.gs {n : Nat} {l : List Nat} (h : KeyRow n l) : GS1 n l := ⟨h.1, fun c hc => key_small (h.2 c hc)⟩
def every : List Nat := [97, 98, 99, 100, 101, 102, 103, 104, 105, 106, 107, 108, 109, 110, 111, 112, 113, 114, 115, 116, 117, 118, 119, 120, 121, 122, 45, 35, 60, 62]
end
end Dl

/-! plain laws, part 5: rows of signs and bars, the states of pressing -/
namespace Dl
/-- a letter typed at all bars -/
def typeS (k : Nat) : List (List Nat) → List (List Nat)
  | [] => []
  | [s] => [s]
  | s :: t :: r => (s ++ [k]) :: typeS k (t :: r)
/-- a key backwards at all bars but the first -/
def bsM : List (List Nat) → List (List Nat)
  | [] => []
  | [s] => [s]
  | s :: t :: r => if s.dropLast = [] then bsM (t :: r) else s.dropLast :: bsM (t :: r)
def bsS : List (List Nat) → List (List Nat)
  | [] => []
  | [s] => [s]
  | s :: t :: r => s.dropLast :: bsM (t :: r)
/-- all stretches but the last are not empty -/
def MidOk : List (List Nat) → Prop
  | [] => True
  | [_] => True
  | s :: t :: r => s ≠ [] ∧ MidOk (t :: r)
/-- a move to the left: what was taken stands first in the next stretch -/
def mvM : List Nat → List (List Nat) → List (List Nat)
  | _, [] => []
  | p, [s] => [p ++ s]
  | p, s :: t :: r => if (p ++ s).dropLast = [] then mvM (p ++ s).getLast?.toList (t :: r) else (p ++ s).dropLast :: mvM (p ++ s).getLast?.toList (t :: r)
def mvS : List (List Nat) → List (List Nat)
  | [] => []
  | [s] => [s]
  | s :: t :: r => s.dropLast :: mvM s.getLast?.toList (t :: r)
theorem mvM_ne : ∀ {t : List Nat} {r : List (List Nat)} {p : List Nat}, mvM p (t :: r) ≠ []
  | t, [], p => by simp [mvM]
  | t, u :: r, p => by
    unfold mvM
    split
    · exact mvM_ne
    · simp
end Dl

/-! plain laws, part 6: states of pressing -/
namespace Dl
/-- the places between the stretches -/
def sums (a : Nat) : List (List Nat) → List Nat
  | [] => []
  | [_] => []
  | s :: t :: r => (a + s.length) :: sums (a + s.length) (t :: r)
/-- without copies of the one before -/
def dedupe : List Nat → List Nat
  | [] => []
  | [a] => [a]
  | a :: b :: r => if a = b then dedupe (b :: r) else a :: dedupe (b :: r)
def normM : List (List Nat) → List (List Nat)
  | [] => []
  | [s] => [s]
  | s :: t :: r => if s = [] then normM (t :: r) else s :: normM (t :: r)
def norm : List (List Nat) → List (List Nat)
  | [] => []
  | [s] => [s]
  | s :: t :: r => s :: normM (t :: r)
theorem normM_ne : ∀ {t : List Nat} {r : List (List Nat)}, normM (t :: r) ≠ []
  | t, [] => by simp [normM]
  | t, u :: r => by
    unfold normM
    split
    · exact normM_ne
    · simp
theorem normM_flat : ∀ ss : List (List Nat), (normM ss).flatten = ss.flatten
  | [] => rfl
  | [s] => rfl
  | s :: t :: r => by
    unfold normM
    split
    · rename_i h
      rw [normM_flat (t :: r), h]
      rfl
    · rw [List.flatten_cons, normM_flat (t :: r)]
      rfl
theorem norm_flat : ∀ ss : List (List Nat), (norm ss).flatten = ss.flatten
  | [] => rfl
  | [s] => rfl
  | s :: t :: r => by
    show (s :: normM (t :: r)).flatten = _
    rw [List.flatten_cons, normM_flat (t :: r)]
    rfl
theorem sums_cons (a : Nat) (s : List Nat) {r : List (List Nat)} (h : r ≠ []) : sums a (s :: r) = (a + s.length) :: sums (a + s.length) r := by
  cases r with
  | nil => exact absurd rfl h
  | cons t r => rfl
theorem dedupe_sums : ∀ (a : Nat) (ss : List (List Nat)), dedupe (a :: sums a ss) = a :: sums a (normM ss)
  | a, [] => rfl
  | a, [s] => rfl
  | a, s :: t :: r => by
    show dedupe (a :: (a + s.length) :: sums (a + s.length) (t :: r)) = _
    unfold dedupe normM
    by_cases h : s = []
    · subst h
      simp
      have := dedupe_sums a (t :: r)
      simpa using this
    · have hl : 0 < s.length := List.length_pos_iff.mpr h
      rw [if_neg (by omega), if_neg h, dedupe_sums (a + s.length) (t :: r), sums_cons a s normM_ne]
theorem dedupe_norm (s t : List Nat) (r : List (List Nat)) : dedupe (sums 0 (s :: t :: r)) = sums 0 (norm (s :: t :: r)) := by
  show dedupe ((0 + s.length) :: sums (0 + s.length) (t :: r)) = sums 0 (s :: normM (t :: r))
  rw [dedupe_sums, sums_cons 0 s normM_ne]
end Dl

/-! plain laws, part 7: pressing, the program's own defs -/
namespace Dl
open PySem
open PySem.Spec
open PyProof.Rows
open L2
section
variable {st st0 : Sto} {k : KS} {x : XS0} {n m : Nat}
def natsD (l : List Nat) : List D := l.map fun (i : Nat) => .int i
theorem fit_nats {l : List Nat} (hn : l.length ≤ 1000) (hb : ∀ i ∈ l, i ≤ 1000000) : Fit 1 (1000 * 201) (.list (natsD l)) := fit_list (h := 0) (w := 200) (n := 1000) (fun d hd => by
  obtain ⟨i, hi, rfl⟩ := List.mem_map.mp hd
  have := hb i hi
  exact fit_int (by omega)) (by simpa [natsD] using hn)
def dstep (acc : List Nat) (p : Nat) : List Nat := if acc = [] ∨ acc.getLast? ≠ some p then acc ++ [p] else acc
theorem r_places {l : List Nat} (hn : l.length ≤ 1000) (hb : ∀ i ∈ l, i ≤ 1000000) (h : k (.d (.tuple (natsD (l.foldl dstep [])))) st) : F_places_without_copies [.d (.list (natsD l))] st k x := by
  simp [F_places_without_copies, e_run, w_places_without_copies, sizeLine_eq]
  refine loopF_fold (α := Nat) (σ := List Nat) (fun (i : Nat) => .int i) dstep (fun l acc => acc.length + l.length ≤ 1000 ∧ (∀ i ∈ acc, i ≤ 1000000) ∧ ∀ i ∈ l, i ≤ 1000000)
    (fun acc r => ∃ y2 : Option D, r = ⟨[some (.d (.list (natsD l))), some (.l st.length), y2.map R.d], st ++ [some (natsD acc)]⟩) ?_ ?_ l [] _ ⟨by simpa using hn, by simp, hb⟩ ⟨none, rfl⟩ ?_
  · rintro p l2 acc r K ⟨h1, h2, h3⟩ ⟨y2, rfl⟩ hK
    simp only [List.length_cons] at h1
    simp [sizeLine_eq]
    have hf := fit_nats (l := acc) (by omega) h2
    by_cases ha : acc = []
    · subst ha
      refine g_eqNil hf (by decide) ?_
      simp [natsD, uAppend, sizeLine_eq]
      exact hK _ ⟨some (.int p), by simp [dstep, natsD]⟩
    · refine g_eqNil hf (by decide) ?_
      have e1 : (natsD acc).isEmpty = false := by
        cases acc with
        | nil => exact absurd rfl ha
        | cons a b => rfl
      have e2 : (natsD acc).getLast? = some (.int (acc.getLast ha : Nat)) := by
        unfold natsD
        rw [List.getLast?_map, List.getLast?_eq_getLast ha]
        rfl
      have e3 : (natsD acc).length = acc.length := by simp [natsD]
      rw [e1]
      simp [g_ixL, e2, g_ne]
      by_cases hp : acc.getLast ha = p
      · have ed : dstep acc p = acc := by simp [dstep, ha, List.getLast?_eq_getLast ha, hp]
        rw [ed] at hK
        have := hK _ ⟨some (.int p), rfl⟩
        simpa [hp] using this
      · have ed : dstep acc p = acc ++ [p] := by simp [dstep, ha, List.getLast?_eq_getLast ha, hp]
        rw [ed] at hK
        have := hK _ ⟨some (.int p), rfl⟩
        have hp' : ¬ ((acc.getLast ha : Nat) : Int) = (p : Int) := by omega
        simp [hp', uAppend, sizeLine_eq, e3]
        refine ⟨by omega, ?_⟩
        simpa [natsD] using this
  · rintro p l2 acc ⟨h1, h2, h3⟩
    simp only [List.length_cons] at h1
    have hl : (dstep acc p).length ≤ acc.length + 1 := by
      unfold dstep
      split <;> simp
    refine ⟨by omega, fun i hi => ?_, fun i hi => h3 i (List.mem_cons_of_mem _ hi)⟩
    unfold dstep at hi
    split at hi
    · rcases List.mem_append.mp hi with hi | hi
      · exact h2 i hi
      · rw [List.mem_singleton.mp hi]
        exact h3 p (by simp)
    · exact h2 i hi
  · rintro r ⟨y2, rfl⟩
    simp
    exact h
end
end Dl

/-! plain laws, part 8: the states of pressing, pure -/
namespace Dl
def revS (ss : List (List Nat)) : List (List Nat) := (ss.map List.reverse).reverse
def stepS (ss : List (List Nat)) (k : Nat) : List (List Nat) :=
  if k = 45 then bsS ss else if k = 60 then mvS ss else if k = 35 then revS (bsS (revS ss)) else if k = 62 then revS (mvS (revS ss)) else typeS k ss
def neL (l : List Nat) : Bool := !l.isEmpty
theorem neL_iff {l : List Nat} : neL l = true ↔ l ≠ [] := by cases l <;> simp [neL]
theorem two_form {ss : List (List Nat)} (h : 2 ≤ ss.length) : ∃ s m t, ss = s :: (m ++ [t]) := by
  match ss, h with
  | s :: u :: r, _ => exact ⟨s, (u :: r).dropLast, (u :: r).getLast (by simp), by rw [List.dropLast_concat_getLast]⟩
theorem normM_form (m : List (List Nat)) (t : List Nat) : normM (m ++ [t]) = m.filter neL ++ [t] := by
  induction m with
  | nil => rfl
  | cons u m ih =>
    have e : u :: m ++ [t] = u :: (m ++ [t]) := rfl
    cases h : m ++ [t] with
    | nil => simp at h
    | cons v r =>
      rw [e, h]
      unfold normM
      rw [← h, ih]
      by_cases hu : u = []
      · simp [hu, neL]
      · have : neL u = true := neL_iff.mpr hu
        simp [hu, this]
theorem norm_form (s : List Nat) (m : List (List Nat)) (t : List Nat) : norm (s :: (m ++ [t])) = s :: (m.filter neL ++ [t]) := by
  cases h : m ++ [t] with
  | nil => simp at h
  | cons v r =>
    show s :: normM (v :: r) = _
    rw [← h, normM_form]
theorem bsM_form (m : List (List Nat)) (t : List Nat) : bsM (m ++ [t]) = (m.map List.dropLast).filter neL ++ [t] := by
  induction m with
  | nil => rfl
  | cons u m ih =>
    have e : u :: m ++ [t] = u :: (m ++ [t]) := rfl
    cases h : m ++ [t] with
    | nil => simp at h
    | cons v r =>
      rw [e, h]
      unfold bsM
      rw [← h, ih]
      by_cases hu : u.dropLast = []
      · simp [hu, neL]
      · have : neL u.dropLast = true := neL_iff.mpr hu
        rw [if_neg hu, List.map_cons, List.filter_cons_of_pos this]
        rfl
theorem bsS_form (s : List Nat) (m : List (List Nat)) (t : List Nat) : bsS (s :: (m ++ [t])) = s.dropLast :: ((m.map List.dropLast).filter neL ++ [t]) := by
  cases h : m ++ [t] with
  | nil => simp at h
  | cons v r =>
    show s.dropLast :: bsM (v :: r) = _
    rw [← h, bsM_form]
theorem typeS_form (k : Nat) (m : List (List Nat)) (t : List Nat) : typeS k (m ++ [t]) = m.map (· ++ [k]) ++ [t] := by
  induction m with
  | nil => rfl
  | cons u m ih =>
    have e : u :: m ++ [t] = u :: (m ++ [t]) := rfl
    cases h : m ++ [t] with
    | nil => simp at h
    | cons v r =>
      rw [e, h]
      unfold typeS
      rw [← h, ih]
      rfl
theorem revS_form (s : List Nat) (m : List (List Nat)) (t : List Nat) : revS (s :: (m ++ [t])) = t.reverse :: (revS m ++ [s.reverse]) := by
  simp [revS]
theorem rev_dl (l : List Nat) : l.reverse.dropLast.reverse = l.drop 1 := by
  rw [List.dropLast_reverse, List.reverse_reverse]
  cases l <;> rfl
theorem del_form (s : List Nat) (m : List (List Nat)) (t : List Nat) : revS (bsS (revS (s :: (m ++ [t])))) = s :: ((m.map (List.drop 1)).filter neL ++ [t.drop 1]) := by
  rw [revS_form, bsS_form, revS_form, List.reverse_reverse, rev_dl]
  congr 2
  unfold revS
  rw [List.map_reverse, List.filter_reverse, List.map_reverse, List.reverse_reverse]
  induction m with
  | nil => rfl
  | cons u m ih =>
    simp only [List.map_cons]
    have hh := rev_dl u
    by_cases hu : u.drop 1 = []
    · have h1 : u.reverse.dropLast = [] := by
        have : u.reverse.dropLast.reverse = [] := by rw [hh, hu]
        simpa using this
      have h2 : neL (u.drop 1) = false := by rw [hu]; rfl
      have h3 : neL u.reverse.dropLast = false := by rw [h1]; rfl
      rw [List.filter_cons_of_neg (by rw [h3]; simp), List.filter_cons_of_neg (by rw [h2]; simp), ih]
    · have h2 : neL (u.drop 1) = true := neL_iff.mpr hu
      have h3 : neL u.reverse.dropLast = true := neL_iff.mpr fun z => hu (by rw [← hh, z]; rfl)
      rw [List.filter_cons_of_pos h3, List.filter_cons_of_pos h2, List.map_cons, ih, hh]
theorem midOk_form (m : List (List Nat)) (t : List Nat) : MidOk (m ++ [t]) ↔ ∀ u ∈ m, u ≠ [] := by
  induction m with
  | nil => simp [MidOk]
  | cons u m ih =>
    have e : u :: m ++ [t] = u :: (m ++ [t]) := rfl
    cases h : m ++ [t] with
    | nil => simp at h
    | cons v r =>
      rw [e, h]
      unfold MidOk
      rw [← h, ih]
      simp
/-- a state: two stretches or more, the middle ones not empty -/
def SOk (ss : List (List Nat)) : Prop := ∃ s m t, ss = s :: (m ++ [t]) ∧ ∀ u ∈ m, u ≠ []
theorem SOk.rev {ss : List (List Nat)} (h : SOk ss) : SOk (revS ss) := by
  obtain ⟨s, m, t, rfl, hm⟩ := h
  refine ⟨t.reverse, revS m, s.reverse, revS_form s m t, fun u hu => ?_⟩
  simp [revS] at hu
  obtain ⟨v, hv, rfl⟩ := hu
  simpa using hm v hv
theorem mvM_len : ∀ {ss : List (List Nat)} {p : List Nat}, (mvM p ss).length ≤ ss.length
  | [], p => by simp [mvM]
  | [s], p => by simp [mvM]
  | s :: t :: r, p => by
    unfold mvM
    have h1 := mvM_len (ss := t :: r) (p := (p ++ s).getLast?.toList)
    split
    · simp only [List.length_cons] at h1 ⊢
      omega
    · simp only [List.length_cons] at h1 ⊢
      omega
theorem last_split (l : List Nat) : l.dropLast ++ l.getLast?.toList = l := by
  cases h : l with
  | nil => rfl
  | cons a r =>
    rw [← h, List.getLast?_eq_getLast (by rw [h]; simp)]
    exact List.dropLast_concat_getLast _
theorem mvM_flat : ∀ {ss : List (List Nat)} {p : List Nat}, ss ≠ [] → (mvM p ss).flatten = p ++ ss.flatten
  | [], p, h => absurd rfl h
  | [s], p, _ => by simp [mvM]
  | s :: t :: r, p, _ => by
    unfold mvM
    have h1 := mvM_flat (ss := t :: r) (p := (p ++ s).getLast?.toList) (by simp)
    have h2 := last_split (p ++ s)
    split
    · rename_i hd
      rw [h1, List.flatten_cons (l := s), ← List.append_assoc p s]
      rw [hd, List.nil_append] at h2
      rw [h2]
    · rw [List.flatten_cons, h1, ← List.append_assoc, h2, List.flatten_cons (l := s), List.append_assoc]
theorem mvM_form : ∀ {ss : List (List Nat)} {p : List Nat}, ss ≠ [] → ∃ m t, mvM p ss = m ++ [t] ∧ ∀ u ∈ m, u ≠ []
  | [], p, h => absurd rfl h
  | [s], p, _ => ⟨[], p ++ s, rfl, by simp⟩
  | s :: t :: r, p, _ => by
    obtain ⟨m, u, e, hm⟩ := mvM_form (ss := t :: r) (p := (p ++ s).getLast?.toList) (by simp)
    unfold mvM
    split
    · exact ⟨m, u, e, hm⟩
    · rename_i hd
      refine ⟨(p ++ s).dropLast :: m, u, by rw [e]; rfl, fun v hv => ?_⟩
      rcases List.mem_cons.mp hv with rfl | hv
      · exact hd
      · exact hm v hv
theorem mvS_cons (s : List Nat) (m : List (List Nat)) (t : List Nat) : mvS (s :: (m ++ [t])) = s.dropLast :: mvM s.getLast?.toList (m ++ [t]) := by
  cases h : m ++ [t] with
  | nil => simp at h
  | cons v r => rfl
theorem SOk.mv {ss : List (List Nat)} (h : SOk ss) : SOk (mvS ss) ∧ (mvS ss).flatten = ss.flatten ∧ (mvS ss).length ≤ ss.length := by
  obtain ⟨s, m, t, rfl, hm⟩ := h
  rw [mvS_cons]
  obtain ⟨m', t', e, hm'⟩ := mvM_form (ss := m ++ [t]) (p := s.getLast?.toList) (by simp)
  have hl := mvM_len (ss := m ++ [t]) (p := s.getLast?.toList)
  refine ⟨⟨s.dropLast, m', t', by rw [e], hm'⟩, ?_, ?_⟩
  · rw [List.flatten_cons, mvM_flat (by simp), ← List.append_assoc, last_split, List.flatten_cons]
  · simp only [List.length_cons]
    omega
theorem filt_ne (m : List (List Nat)) : ∀ u ∈ m.filter neL, u ≠ [] := fun u hu => neL_iff.mp (List.mem_filter.mp hu).2
theorem SOk.norm {s : List Nat} {m : List (List Nat)} {t : List Nat} : SOk (s :: (m.filter neL ++ [t])) := ⟨s, _, t, rfl, filt_ne m⟩
end Dl

/-! plain laws, part 8b: places -/
namespace Dl
theorem dstep_dedupe : ∀ (l : List Nat) (acc : List Nat) (a : Nat), l.foldl dstep (acc ++ [a]) = acc ++ dedupe (a :: l)
  | [], acc, a => by simp [dedupe]
  | b :: l, acc, a => by
    rw [List.foldl_cons]
    unfold dedupe
    by_cases h : a = b
    · subst h
      have e : dstep (acc ++ [a]) a = acc ++ [a] := by simp [dstep]
      rw [e, dstep_dedupe l acc a, if_pos rfl]
    · have e : dstep (acc ++ [a]) b = acc ++ [a] ++ [b] := by simp [dstep, h]
      rw [e, dstep_dedupe l (acc ++ [a]) b, if_neg h]
      simp
theorem foldl_dedupe (l : List Nat) : l.foldl dstep [] = dedupe l := by
  cases l with
  | nil => rfl
  | cons a l =>
    have e : dstep [] a = [] ++ [a] := by simp [dstep]
    rw [List.foldl_cons, e, dstep_dedupe, List.nil_append]
/-- strictly ascending within bounds -/
def Asc (a b : Nat) : List Nat → Prop
  | [] => True
  | c :: cs => a ≤ c ∧ c ≤ b ∧ Asc (c + 1) b cs
theorem Asc.mono {a a' b : Nat} : ∀ {cs : List Nat}, Asc a b cs → a' ≤ a → Asc a' b cs
  | [], _, _ => trivial
  | c :: cs, h, h2 => ⟨Nat.le_trans h2 h.1, h.2⟩
theorem Asc.le {a b : Nat} : ∀ {cs : List Nat}, Asc a b cs → ∀ c ∈ cs, a ≤ c ∧ c ≤ b
  | [], _, c, h => by cases h
  | d :: cs, h, c, hc => by
    rcases List.mem_cons.mp hc with rfl | hc
    · exact ⟨h.1, h.2.1⟩
    · have := Asc.le h.2.2 c hc
      have := h.1
      exact ⟨by omega, by omega⟩
theorem sums_mid : ∀ (r : List (List Nat)) (a : Nat), MidOk r → Asc (a + 1) (a + r.flatten.length) (sums a r)
  | [], a, _ => trivial
  | [t], a, _ => trivial
  | t :: u :: r, a, h => by
    have ih := sums_mid (u :: r) (a + t.length) h.2
    have hl : 0 < t.length := List.length_pos_iff.mpr h.1
    have e : a + (t :: u :: r).flatten.length = a + t.length + (u :: r).flatten.length := by
      rw [List.flatten_cons, List.length_append]
      omega
    show a + 1 ≤ a + t.length ∧ a + t.length ≤ a + (t :: u :: r).flatten.length ∧ Asc (a + t.length + 1) (a + (t :: u :: r).flatten.length) (sums (a + t.length) (u :: r))
    rw [e]
    exact ⟨by omega, by omega, ih⟩
theorem SOk.cons {ss : List (List Nat)} (h : SOk ss) : ∃ s t r, ss = s :: t :: r ∧ MidOk (t :: r) := by
  obtain ⟨s, m, t, rfl, hm⟩ := h
  have h2 := (midOk_form m t).mpr hm
  cases h : m ++ [t] with
  | nil => simp at h
  | cons v r =>
    rw [h] at h2
    exact ⟨s, v, r, rfl, h2⟩
theorem SOk.asc {ss : List (List Nat)} (h : SOk ss) : Asc 0 ss.flatten.length (sums 0 ss) := by
  obtain ⟨s, t, r, rfl, hm⟩ := h.cons
  have := sums_mid (t :: r) s.length hm
  show 0 ≤ 0 + s.length ∧ 0 + s.length ≤ (s :: t :: r).flatten.length ∧ Asc (0 + s.length + 1) (s :: t :: r).flatten.length (sums (0 + s.length) (t :: r))
  rw [List.flatten_cons, List.length_append, Nat.zero_add]
  exact ⟨by omega, by omega, this⟩
theorem SOk.ne {ss : List (List Nat)} (h : SOk ss) : sums 0 ss ≠ [] := by
  obtain ⟨s, t, r, rfl, hm⟩ := h.cons
  simp [sums]
theorem sums_len : ∀ (ss : List (List Nat)) (a : Nat), (sums a ss).length = ss.length - 1
  | [], a => rfl
  | [s], a => rfl
  | s :: t :: r, a => by
    have := sums_len (t :: r) (a + s.length)
    show (sums (a + s.length) (t :: r)).length + 1 = _
    rw [this]
    simp
theorem sums_shift : ∀ (ss : List (List Nat)) (a b : Nat), sums (a + b) ss = (sums b ss).map (a + ·)
  | [], a, b => rfl
  | [s], a, b => rfl
  | s :: t :: r, a, b => by
    show (a + b + s.length) :: sums (a + b + s.length) (t :: r) = (a + (b + s.length)) :: (sums (b + s.length) (t :: r)).map (a + ·)
    rw [Nat.add_assoc, sums_shift (t :: r) a (b + s.length)]
theorem sums_snoc : ∀ (L : List (List Nat)) (t : List Nat) (a : Nat), L ≠ [] → sums a (L ++ [t]) = sums a L ++ [a + L.flatten.length]
  | [], t, a, h => absurd rfl h
  | [s], t, a, _ => by simp [sums]
  | s :: u :: r, t, a, _ => by
    have ih := sums_snoc (u :: r) t (a + s.length) (by simp)
    show (a + s.length) :: sums (a + s.length) ((u :: r) ++ [t]) = (a + s.length) :: sums (a + s.length) (u :: r) ++ _
    rw [ih, List.flatten_cons (l := s), List.length_append, Nat.add_assoc]
    rfl
theorem revS_flat (ss : List (List Nat)) : (revS ss).flatten.length = ss.flatten.length := by
  induction ss with
  | nil => rfl
  | cons s r ih =>
    have e : revS (s :: r) = revS r ++ [s.reverse] := by simp [revS]
    rw [e]
    simp only [List.flatten_append, List.length_append, ih, List.flatten_cons]
    simp
    omega
theorem sums_rev : ∀ (ss : List (List Nat)), sums 0 (revS ss) = ((sums 0 ss).map (ss.flatten.length - ·)).reverse
  | [] => rfl
  | [s] => rfl
  | s :: t :: r => by
    have ih := sums_rev (t :: r)
    have e : revS (s :: t :: r) = revS (t :: r) ++ [s.reverse] := by simp [revS]
    have e2 : sums 0 (s :: t :: r) = (0 + s.length) :: sums (0 + s.length) (t :: r) := rfl
    have e3 : sums (0 + s.length) (t :: r) = (sums 0 (t :: r)).map (s.length + ·) := by
      rw [Nat.zero_add]
      exact sums_shift (t :: r) s.length 0
    rw [e, sums_snoc _ _ _ (by simp [revS]), ih, revS_flat, e2, e3, List.map_cons, List.map_map, List.reverse_cons, List.flatten_cons (l := s), List.length_append]
    congr 1
    · congr 1
      refine List.map_congr_left fun c _ => ?_
      show _ = s.length + (t :: r).flatten.length - (s.length + c)
      omega
    · congr 1
      omega
theorem dedupe_snoc (l : List Nat) (a : Nat) : dedupe (l ++ [a]) = dstep (dedupe l) a := by
  rw [← foldl_dedupe, ← foldl_dedupe, List.foldl_append]
  rfl
theorem dedupe_head (a : Nat) (l : List Nat) : (dedupe (a :: l)).head? = some a := by
  induction l generalizing a with
  | nil => rfl
  | cons b l ih =>
    unfold dedupe
    split
    · rename_i h
      rw [ih, h]
    · rfl
theorem dedupe_rev : ∀ l : List Nat, dedupe l.reverse = (dedupe l).reverse
  | [] => rfl
  | [a] => rfl
  | a :: b :: l => by
    have ih := dedupe_rev (b :: l)
    rw [List.reverse_cons, dedupe_snoc, ih]
    have h0 : (dedupe (b :: l)).reverse ≠ [] := by
      intro z
      have h1 := dedupe_head b l
      have : dedupe (b :: l) = [] := by simpa using z
      rw [this] at h1
      cases h1
    have h1 : (dedupe (b :: l)).reverse.getLast? = some b := by
      rw [List.getLast?_reverse, dedupe_head]
    have e : dedupe (a :: b :: l) = if a = b then dedupe (b :: l) else a :: dedupe (b :: l) := rfl
    rw [e]
    unfold dstep
    rw [h1]
    by_cases h : a = b
    · subst h
      rw [if_neg (by simp [h0]), if_pos rfl]
    · rw [if_pos (.inr (by simp; exact fun z => h z.symm)), if_neg h, List.reverse_cons]
theorem dedupe_map {f : Nat → Nat} : ∀ {l : List Nat}, (∀ a ∈ l, ∀ b ∈ l, f a = f b → a = b) → dedupe (l.map f) = (dedupe l).map f
  | [], _ => rfl
  | [a], _ => rfl
  | a :: b :: l, h => by
    have ih := dedupe_map (f := f) (l := b :: l) fun x hx y hy => h x (List.mem_cons_of_mem _ hx) y (List.mem_cons_of_mem _ hy)
    rw [List.map_cons] at ih ⊢
    rw [List.map_cons]
    unfold dedupe
    rw [ih]
    by_cases hab : a = b
    · rw [if_pos hab, if_pos (by rw [hab])]
    · rw [if_neg hab, if_neg (fun z => hab (h a (by simp) b (by simp) z)), List.map_cons]
theorem mv_mids : ∀ (ss : List (List Nat)) (p : List Nat) (b : Nat), MidOk ss → p.length ≤ 1 → ss ≠ [] → dedupe (b :: (sums (b + p.length) ss).map (· - 1)) = b :: sums b (mvM p ss)
  | [], p, b, _, _, h => absurd rfl h
  | [s], p, b, _, _, _ => rfl
  | s :: t :: r, p, b, hm, hp, _ => by
    have hs : 0 < s.length := List.length_pos_iff.mpr hm.1
    have hps : p ++ s ≠ [] := by simp [hm.1]
    have hl : (p ++ s).getLast?.toList.length = 1 := by
      rw [List.getLast?_eq_getLast hps]
      rfl
    have hd : (p ++ s).dropLast.length = p.length + s.length - 1 := by simp
    have e : sums (b + p.length) (s :: t :: r) = (b + p.length + s.length) :: sums (b + p.length + s.length) (t :: r) := rfl
    rw [e, List.map_cons]
    have e2 : b + p.length + s.length = (b + p.length + s.length - 1) + (p ++ s).getLast?.toList.length := by omega
    have ih := mv_mids (t :: r) (p ++ s).getLast?.toList (b + p.length + s.length - 1) hm.2 (by omega) (by simp)
    rw [← e2] at ih
    unfold dedupe mvM
    rw [ih]
    by_cases hz : (p ++ s).dropLast = []
    · have : p.length + s.length - 1 = 0 := by rw [← hd, hz]; rfl
      have e3 : b + p.length + s.length - 1 = b := by omega
      rw [if_pos hz, e3, if_pos rfl]
    · have : 0 < p.length + s.length - 1 := by rw [← hd]; exact List.length_pos_iff.mpr hz
      rw [if_neg hz, if_neg (by omega), sums_cons _ _ mvM_ne, hd]
      have e3 : b + (p.length + s.length - 1) = b + p.length + s.length - 1 := by omega
      rw [e3]
theorem mv_sums {ss : List (List Nat)} (h : SOk ss) : dedupe ((sums 0 ss).map (· - 1)) = sums 0 (mvS ss) := by
  obtain ⟨s, t, r, rfl, hm⟩ := h.cons
  have hl : s.dropLast.length + s.getLast?.toList.length = s.length := by
    rw [← List.length_append, last_split]
  have h1 : s.getLast?.toList.length ≤ 1 := by cases s.getLast? <;> simp
  have := mv_mids (t :: r) s.getLast?.toList s.dropLast.length hm h1 (by simp)
  rw [hl] at this
  show dedupe ((0 + s.length - 1) :: (sums (0 + s.length) (t :: r)).map (· - 1)) = sums 0 (s.dropLast :: mvM s.getLast?.toList (t :: r))
  rw [sums_cons _ _ mvM_ne, Nat.zero_add, Nat.zero_add, ← this, List.length_dropLast]
theorem rmv_sums {ss : List (List Nat)} (h : SOk ss) : dedupe ((sums 0 ss).map fun c => min ss.flatten.length (c + 1)) = sums 0 (revS (mvS (revS ss))) := by
  have h1 := mv_sums h.rev
  have h2 := h.rev.mv.2.1
  have hb := h.asc.le
  rw [sums_rev, ← h1, sums_rev, h2, revS_flat, List.map_reverse, dedupe_rev, List.map_reverse, List.reverse_reverse, List.map_map]
  generalize hn : ss.flatten.length = n at *
  rw [← dedupe_map (f := fun c => n - c), List.map_map]
  · congr 1
    refine List.map_congr_left fun c hc => ?_
    have := (hb c hc).2
    show min n (c + 1) = n - (n - c - 1)
    omega
  · intro x hx y hy e
    obtain ⟨c, _, rfl⟩ := List.mem_map.mp hx
    obtain ⟨d, _, rfl⟩ := List.mem_map.mp hy
    simp only [Function.comp_apply] at e ⊢
    omega
theorem sums_flat {ss : List (List Nat)} (h : 2 ≤ ss.length) : dedupe (sums 0 ss) = sums 0 (norm ss) := by
  match ss, h with
  | s :: t :: r, _ => exact dedupe_norm s t r
/-- the key pressed, by places -/
theorem step_sok {ss : List (List Nat)} (h : SOk ss) (k : Nat) : SOk (stepS ss k) := by
  unfold stepS
  split
  · obtain ⟨s, m, t, rfl, hm⟩ := h
    rw [bsS_form]
    exact .norm
  · split
    · exact h.mv.1
    · split
      · obtain ⟨s, m, t, rfl, hm⟩ := h
        rw [del_form]
        exact .norm
      · split
        · exact h.rev.mv.1.rev
        · obtain ⟨s, m, t, rfl, hm⟩ := h
          have e : typeS k (s :: m ++ [t]) = _ := typeS_form k (s :: m) t
          refine ⟨s ++ [k], m.map (· ++ [k]), t, e, fun u hu => ?_⟩
          obtain ⟨v, _, rfl⟩ := List.mem_map.mp hu
          simp
end Dl

/-! plain laws, part 9: pressing, the program's own defs -/
namespace Dl
open PySem
open PySem.Spec
open PyProof.Rows
open L2
theorem lcP {α : Type} {i j : Nat} {we : WE} {wt : WT} {sl : List (Option R)} {st : Sto} (e1 e2 : α → D) (p : α → Bool) (f : α → D) {l : List α} {k : List D → Env → Prop} {ds : List D} (hd : ds = l.map fun a => .tuple [e1 a, e2 a]) (hij : i ≠ j)
    (ht : ∀ a ∈ l, ∀ K X, K (p a) ⟨(sl.set i (some (.d (e1 a)))).set j (some (.d (e2 a))), st⟩ → wt ⟨(sl.set i (some (.d (e1 a)))).set j (some (.d (e2 a))), st⟩ K X)
    (he : ∀ a ∈ l, p a = true → ∀ (K : KE) X, K (.d (f a)) ⟨(sl.set i (some (.d (e1 a)))).set j (some (.d (e2 a))), st⟩ → we ⟨(sl.set i (some (.d (e1 a)))).set j (some (.d (e2 a))), st⟩ K X)
    (hz : l.length ≤ sizeLine) (h : k ((l.filter p).map f) ⟨sl, st⟩) (hv : ∀ v ∈ [i, j], v < sl.length → sl[v]? = some (heldD ⟨sl, st⟩ v)) : lcR (.tp [i, j]) wt we [i, j] ds ⟨sl, st⟩ k := by
  refine lcT (fun a => [e1 a, e2 a]) p f (fun a => (sl.set i (some (.d (e1 a)))).set j (some (.d (e2 a)))) hd (fun a _ K hK => ?_) (fun a _ => ?_) ht he hz h hv
  · show K ⟨(((sl.set j none).set i none).set i (some (.d (e1 a)))).set j (some (.d (e2 a))), st⟩
    rw [List.set_set, List.set_comm _ _ hij.symm, List.set_set]
    exact hK
  · show (((sl.set i _).set j _).set j none).set i none = (sl.set j none).set i none
    rw [List.set_set, List.set_comm _ _ hij, List.set_set, List.set_comm _ _ hij.symm]
theorem pairs_mapP {α β : Type} (a : α → D) (b : β → D) (l : List α) (l' : List β) : pairs (l.map a) (l'.map b) = (l.zip l').map fun x => .tuple [a x.1, b x.2] := by
  unfold pairs
  induction l generalizing l' with
  | nil => rfl
  | cons x l ih =>
    cases l' with
    | nil => rfl
    | cons y l' => simpa using ih l'
theorem cut_nat {α : Type} {l : List α} {a b : Nat} : cut l (some (a : Int)) (some (b : Int)) = (l.drop (min a l.length)).take (min b l.length - min a l.length) := by
  unfold cut
  rw [HT.sIx_nat, HT.sIx_nat]
theorem cut_to {α : Type} {l : List α} {b : Nat} : cut l none (some (b : Int)) = l.take b := by
  unfold cut
  rw [HT.sIx_none, HT.sIx_nat, List.drop_zero, Nat.sub_zero]
  by_cases h : b ≤ l.length
  · rw [Nat.min_eq_left h]
  · rw [Nat.min_eq_right (by omega), List.take_length, List.take_of_length_le (by omega)]
theorem cut_to1 {α : Type} {l : List α} : cut l none (some 1) = l.take 1 := cut_to (b := 1)
theorem cut_fr1 {α : Type} {l : List α} : cut l (some 1) none = l.drop 1 := cut_from (i := 1) (by decide)
theorem cut_frN {α : Type} {l : List α} {b : Nat} : cut l (some (b : Int)) none = l.drop b := cut_from (i := b) (by omega)
theorem cut_lastM {α : Type} {l : List α} : cut l (some (-1)) none = l.drop (l.length - 1) := by
  have e : HT.sIx l.length 0 (some (-1)) = l.length - 1 := by
    show (if (-1 : Int) < 0 then ((-1 : Int) + (l.length : Int)).toNat else min (-1 : Int).toNat l.length) = _
    rw [if_pos (by decide)]
    omega
  unfold cut
  rw [HT.sIx_none, e]
  exact List.take_of_length_le (by simp)
/-- texts of a list -/
def strsL (L : List (List Nat)) : List D := L.map fun s => .str (S s)
theorem joinS : ∀ L : List (List Nat), Txt.join (S []) (L.map S) = S L.flatten := by
  intro L
  rw [TL.join_eq]
  induction L with
  | nil => rfl
  | cons s L ih =>
    cases L with
    | nil =>
      show S s = _
      simp
    | cons t L =>
      show S s ++ S [] ++ Str.join (S []) ((t :: L).map S) = _
      rw [ih, S_app, S_app]
      congr 1
      simp
theorem sum_lens (L : List (List Nat)) : ((L.map S).map (·.length)).sum = L.flatten.length := by
  induction L with
  | nil => rfl
  | cons s L ih =>
    rw [List.map_cons, List.map_cons, List.sum_cons, ih, List.flatten_cons, List.length_append, S_len]
section
variable {st st0 : Sto} {k : KS} {x : XS0} {n m : Nat}
theorem r_places_l {l : List Nat} {n : Nat} (hst : st[n]? = some (some (natsD l))) (hn : l.length ≤ 1000) (hb : ∀ i ∈ l, i ≤ 1000000) (h : k (.d (.tuple (natsD (dedupe l)))) (st.set n none)) : F_places_without_copies [.l n] st k x := by
  have hlt : n < st.length := (List.getElem?_eq_some_iff.mp hst).1
  rw [← foldl_dedupe] at h
  simp [F_places_without_copies, e_run, w_places_without_copies, sizeLine_eq]
  rw [e_lstAt (by rw [e_getL hlt]; exact hst), e_setL hlt]
  have hne : ¬ st.length = n := by omega
  simp [hne]
  refine loopF_fold (α := Nat) (σ := List Nat) (fun (i : Nat) => .int i) dstep (fun l acc => acc.length + l.length ≤ 1000 ∧ (∀ i ∈ acc, i ≤ 1000000) ∧ ∀ i ∈ l, i ≤ 1000000)
    (fun acc r => ∃ y2 : Option D, r = ⟨[some (.d (.list (natsD l))), some (.l st.length), y2.map R.d], st.set n none ++ [some (natsD acc)]⟩) ?_ ?_ l [] _ ⟨by simpa using hn, by simp, hb⟩ ⟨none, rfl⟩ ?_
  · rintro p l2 acc r K ⟨h1, h2, h3⟩ ⟨y2, rfl⟩ hK
    simp only [List.length_cons] at h1
    have hm : (st.set n none).length = st.length := by simp
    simp [sizeLine_eq, e_lstM hm]
    have hf := fit_nats (l := acc) (by omega) h2
    by_cases ha : acc = []
    · subst ha
      refine g_eqNil hf (by decide) ?_
      simp [natsD, uAppend, sizeLine_eq, e_lstM hm, e_setM hm]
      exact hK _ ⟨some (.int p), by simp [dstep, natsD]⟩
    · refine g_eqNil hf (by decide) ?_
      have e1 : (natsD acc).isEmpty = false := by
        cases acc with
        | nil => exact absurd rfl ha
        | cons a b => rfl
      have e2 : (natsD acc).getLast? = some (.int (acc.getLast ha : Nat)) := by
        unfold natsD
        rw [List.getLast?_map, List.getLast?_eq_getLast ha]
        rfl
      have e3 : (natsD acc).length = acc.length := by simp [natsD]
      rw [e1]
      simp [g_ixL, e2, g_ne, e_lstM hm]
      by_cases hp : acc.getLast ha = p
      · have ed : dstep acc p = acc := by simp [dstep, ha, List.getLast?_eq_getLast ha, hp]
        rw [ed] at hK
        have := hK _ ⟨some (.int p), rfl⟩
        simpa [hp] using this
      · have ed : dstep acc p = acc ++ [p] := by simp [dstep, ha, List.getLast?_eq_getLast ha, hp]
        rw [ed] at hK
        have := hK _ ⟨some (.int p), rfl⟩
        have hp' : ¬ ((acc.getLast ha : Nat) : Int) = (p : Int) := by omega
        simp [hp', uAppend, sizeLine_eq, e3, e_lstM hm, e_setM hm]
        refine ⟨by omega, ?_⟩
        simpa [natsD] using this
  · rintro p l2 acc ⟨h1, h2, h3⟩
    simp only [List.length_cons] at h1
    have hl : (dstep acc p).length ≤ acc.length + 1 := by
      unfold dstep
      split <;> simp
    refine ⟨by omega, fun i hi => ?_, fun i hi => h3 i (List.mem_cons_of_mem _ hi)⟩
    unfold dstep at hi
    split at hi
    · rcases List.mem_append.mp hi with hi | hi
      · exact h2 i hi
      · rw [List.mem_singleton.mp hi]
        exact h3 p (by simp)
    · exact h2 i hi
  · rintro r ⟨y2, rfl⟩
    have hm : (st.set n none).length = st.length := by simp
    simp [e_lstM hm, e_takeM hm]
    exact h
/-- a state as the program has it -/
def stD (ss : List (List Nat)) : D := .tuple [.str (S ss.flatten), .tuple (natsD (sums 0 ss))]
theorem natsD_snoc (l : List Nat) (i : Nat) : natsD (l ++ [i]) = natsD l ++ [.int i] := by simp [natsD]
theorem r_state_with {L : List (List Nat)} (h2 : 2 ≤ L.length) (hl : L.length ≤ 1000) (hf : L.flatten.length ≤ 1000000) (h : k (.d (stD (norm L))) st) : F_state_with [.d (.list (strsL L))] st k x := by
  simp [F_state_with, e_run, w_state_with, sizeLine_eq, cut_dropLast]
  have e0 : (strsL L).dropLast = L.dropLast.map fun s => .str (S s) := by simp [strsL, List.map_dropLast]
  rw [e0]
  have hsub : ∀ s ∈ L.dropLast, s.length ≤ L.flatten.length := fun s hs => by
    have : s ∈ L := List.dropLast_subset _ hs
    exact (List.sublist_flatten_of_mem this).length_le
  have hdl : L.dropLast.flatten.length ≤ L.flatten.length := by
    obtain ⟨s, m, t, rfl⟩ := two_form h2
    have ed : (s :: (m ++ [t])).dropLast = s :: m := by
      show (s :: m ++ [t]).dropLast = _
      rw [List.dropLast_concat]
    rw [ed]
    simp only [List.flatten_cons, List.length_append, List.flatten_append]
    omega
  refine loopF_fold (α := List Nat) (σ := List Nat × Nat) (fun s => .str (S s)) (fun q s => (q.1 ++ [q.2 + s.length], q.2 + s.length)) (fun l q => q.1.length + l.length ≤ 1000 ∧ q.2 + l.flatten.length ≤ 1000000)
    (fun q r => ∃ y3 : Option D, r = ⟨[some (.d (.list (strsL L))), some (.l st.length), some (.d (.int q.2)), y3.map R.d], st ++ [some (natsD q.1)]⟩) ?_ ?_ L.dropLast ([], 0) _ ⟨by simp; omega, by simp only; omega⟩ ⟨none, rfl⟩ ?_
  · rintro s l2 q r K ⟨h1, h3⟩ ⟨y3, rfl⟩ hK
    simp only [List.length_cons, List.flatten_cons, List.length_append] at h1 h3
    have e3 : (natsD q.1).length = q.1.length := by simp [natsD]
    simp [g_lenS, sizeLine_eq, uAppend, e3]
    refine ⟨by omega, by omega, hK _ ⟨some (.str (S s)), ?_⟩⟩
    rw [natsD_snoc]
    simp
  · rintro s l2 q ⟨h1, h3⟩
    simp only [List.length_cons, List.flatten_cons, List.length_append] at h1 h3
    exact ⟨by simp only [List.length_append, List.length_singleton]; omega, by dsimp only; omega⟩
  · rintro r ⟨y3, rfl⟩
    have ef : ∀ (l : List (List Nat)) (q : List Nat × Nat), (l.foldl (fun q s => (q.1 ++ [q.2 + s.length], q.2 + s.length)) q).1 = q.1 ++ (l.foldl (fun q s => (q.1 ++ [q.2 + s.length], q.2 + s.length)) (([] : List Nat), q.2)).1 := by
      intro l
      induction l with
      | nil => simp
      | cons s l ih =>
        intro q
        rw [List.foldl_cons, List.foldl_cons, ih, ih ([] ++ _, _)]
        simp
    have es : ∀ (l : List (List Nat)) (t : List Nat) (a : Nat), (l.foldl (fun q s => (q.1 ++ [q.2 + s.length], q.2 + s.length)) (([] : List Nat), a)).1 = sums a (l ++ [t]) := by
      intro l
      induction l with
      | nil => intro t a; rfl
      | cons s l ih =>
        intro t a
        rw [List.foldl_cons, ef, ih t]
        show _ = sums a (s :: (l ++ [t]))
        rw [sums_cons _ _ (by simp)]
        rfl
    obtain ⟨s, m, t, rfl⟩ := two_form h2
    have ed : (s :: (m ++ [t])).dropLast = s :: m := by
      show (s :: m ++ [t]).dropLast = _
      rw [List.dropLast_concat]
    rw [ed] at hsub hdl ⊢
    have e1 := es (s :: m) t 0
    generalize (List.foldl (fun (q : List Nat × Nat) s => (q.1 ++ [q.2 + s.length], q.2 + s.length)) ([], 0) (s :: m)) = Q at e1 ⊢
    have e1' : Q.1 = sums 0 (s :: (m ++ [t])) := e1
    have hb : ∀ i ∈ Q.1, i ≤ 1000000 := by
      rw [e1']
      have go : ∀ (L : List (List Nat)) (a : Nat), ∀ i ∈ sums a L, i ≤ a + L.flatten.length := by
        intro L
        induction L with
        | nil => intro a i hi; cases hi
        | cons s r ih =>
          intro a i hi
          cases r with
          | nil => cases hi
          | cons t r =>
            rw [List.flatten_cons, List.length_append]
            rcases List.mem_cons.mp hi with rfl | hi
            · omega
            · have := ih _ i hi
              omega
      intro i hi
      have := go _ 0 i hi
      omega
    have hql : Q.1.length ≤ 1000 := by
      rw [e1', sums_len]
      simp at hl ⊢
      omega
    simp
    rw [mJ (l := strsL (s :: (m ++ [t]))) (zs := (s :: (m ++ [t])).map S) (strsD_map S _), sum_lens, joinS]
    refine ⟨by simp at hf ⊢; omega, ?_⟩
    refine r_places_l (l := Q.1) (by simp) hql hb ?_
    simp [sizeLine_eq]
    unfold stD at h
    rw [norm_flat] at h
    rw [e1', sums_flat (by simp)]
    simpa using h
theorem zip_snoc {α β : Type} : ∀ (A : List α) (B : List β) (x : α), A.length = B.length → (A ++ [x]).zip B = A.zip B
  | [], [], x, _ => rfl
  | [], b :: B, x, h => by cases h
  | a :: A, [], x, h => by cases h
  | a :: A, b :: B, x, h => by
    rw [List.cons_append, List.zip_cons_cons, List.zip_cons_cons, zip_snoc A B x (by simpa using h)]
/-- what is cut out between the bounds -/
theorem zip_cut : ∀ (ss : List (List Nat)) (pre : List Nat), ss ≠ [] → ((pre.length :: sums pre.length ss).zip (sums pre.length ss ++ [pre.length + ss.flatten.length])).map (fun p => PyData.str (S (cut (pre ++ ss.flatten) (some (p.1 : Int)) (some (p.2 : Int))))) = strsL ss
  | [], pre, h => absurd rfl h
  | [s], pre, _ => by
    simp [sums, cut_nat, strsL]
  | s :: t :: r, pre, _ => by
    have ih := zip_cut (t :: r) (pre ++ s) (by simp)
    have e1 : sums pre.length (s :: t :: r) = (pre.length + s.length) :: sums (pre.length + s.length) (t :: r) := rfl
    have e2 : (pre ++ s).length = pre.length + s.length := by simp
    have e3 : pre ++ (s :: t :: r).flatten = pre ++ s ++ (t :: r).flatten := by simp
    have e4 : pre.length + (s :: t :: r).flatten.length = pre.length + s.length + (t :: r).flatten.length := by
      rw [List.flatten_cons, List.length_append]
      omega
    rw [e2] at ih
    rw [e1, e3, e4, List.cons_append, List.zip_cons_cons, List.map_cons, ih]
    show _ = PyData.str (S s) :: strsL (t :: r)
    congr 3
    rw [cut_nat]
    have g1 : min pre.length (pre ++ s ++ (t :: r).flatten).length = pre.length := by simp
    have g2 : min (pre.length + s.length) (pre ++ s ++ (t :: r).flatten).length = pre.length + s.length := by simp
    rw [g1, g2, List.append_assoc, List.drop_left]
    rw [show pre.length + s.length - pre.length = s.length by omega, List.take_left]
theorem r_stretches_of {ss : List (List Nat)} (h : SOk ss) (hl : ss.length ≤ 1000) (hf : ss.flatten.length ≤ 1000000) (hk : k (.d (.list (strsL ss))) st) : F_stretches_of [.d (.str (S ss.flatten)), .d (.tuple (natsD (sums 0 ss)))] st k x := by
  have hne : ss ≠ [] := by
    obtain ⟨s, m, t, rfl, _⟩ := h
    simp
  have hsl := sums_len ss 0
  have hnl : (natsD (sums 0 ss)).length = ss.length - 1 := by rw [← hsl]; simp [natsD]
  have key := zip_cut ss [] hne
  generalize hT : ss.flatten = T at *
  simp [F_stretches_of, e_run, w_stretches_of, sizeLine_eq, g_lenS, cut_fr1, hnl]
  refine ⟨by omega, by omega, by omega, ?_⟩
  have ez : PyData.int 0 :: (natsD (sums 0 ss) ++ [PyData.int T.length]) = ((0 :: sums 0 ss) ++ [T.length]).map fun (i : Nat) => PyData.int i := by simp [natsD]
  have ez2 : natsD (sums 0 ss) ++ [PyData.int T.length] = (sums 0 ss ++ [T.length]).map fun (i : Nat) => PyData.int i := by simp [natsD]
  rw [ez, ez2, pairs_mapP]
  have ezip : (0 :: sums 0 ss ++ [T.length]).zip (sums 0 ss ++ [T.length]) = (0 :: sums 0 ss).zip (sums 0 ss ++ [T.length]) := by
    refine zip_snoc _ _ _ ?_
    simp
  rw [ezip]
  refine lcP (α := Nat × Nat) (l := (0 :: sums 0 ss).zip (sums 0 ss ++ [T.length])) (fun p => .int p.1) (fun p => .int p.2) (fun _ => true) (fun p => .str (S (cut T (some (p.1 : Int)) (some (p.2 : Int))))) rfl (by decide) (fun p _ K X hK => by simpa using hK) (fun p _ _ K X hK => ?_) (by rw [sizeLine_eq, List.length_zip]; simp; omega) ?_ (by
    intro v hv _
    simp at hv
    rcases hv with rfl | rfl <;> rfl)
  · simp [g_slS, sizeLine_eq]
    exact ⟨by omega, by simpa using hK⟩
  · rw [List.filter_eq_self.mpr (fun _ _ => rfl)]
    simp at key
    simp
    rw [key]
    exact hk
theorem lits (L : List (List Nat)) : strsL L = L.map fun s => PyData.str (S s) := rfl
theorem natsD_map (l : List Nat) (f : Nat → Nat) : (l.map fun i => PyData.int ((f i : Nat) : Int)) = natsD (l.map f) := by simp [natsD]
theorem flat_le (f : List Nat → List Nat) (hf : ∀ u, (f u).length ≤ u.length + 1) : ∀ m : List (List Nat), (m.map f).flatten.length ≤ m.flatten.length + m.length
  | [] => by simp
  | u :: m => by
    have := flat_le f hf m
    have := hf u
    simp only [List.map_cons, List.flatten_cons, List.length_append, List.length_cons]
    omega
/-- one key -/
theorem r_step_key {ss : List (List Nat)} {c : Nat} (h : SOk ss) (hl : ss.length ≤ 900) (hf : ss.flatten.length ≤ 900000) (hk : k (.d (stD (stepS ss c))) st) : F_step_key [.d (.str (S ss.flatten)), .d (.tuple (natsD (sums 0 ss))), .d (.str (S [c]))] st k x := by
  have hsl := sums_len ss 0
  have hb := h.asc.le
  have h4 : 2 ≤ sizeLine := sz (by decide)
  have fm := h.mv.2.1
  have fr : (revS (mvS (revS ss))).flatten = ss.flatten := by
    have go : ∀ L : List (List Nat), (revS L).flatten = L.flatten.reverse := by
      intro L
      induction L with
      | nil => rfl
      | cons s r ih =>
        have e : revS (s :: r) = revS r ++ [s.reverse] := by simp [revS]
        rw [e, List.flatten_append, ih, List.flatten_cons (l := s), List.reverse_append]
        simp
    rw [go, h.rev.mv.2.1, go, List.reverse_reverse]
  have st1 := mv_sums h
  have st2 := rmv_sums h
  have rs := fun K X (hK : K (.d (.list (strsL ss))) st) => r_stretches_of (k := K) (x := X) h (by omega) (by omega) hK
  by_cases h60 : c = 60
  · subst h60
    have e1 : stepS ss 60 = mvS ss := rfl
    rw [e1] at hk
    unfold stD at hk
    rw [fm, ← st1] at hk
    generalize hT : ss.flatten = T at *
    simp [F_step_key, e_run, w_step_key, g_eqS]
    refine lc1y (α := Nat) (l := sums 0 ss) (fun (i : Nat) => .int i) (fun i => .int ((i - 1 : Nat) : Int)) rfl (fun i hi K X hK => ?_) (by rw [sizeLine_eq]; omega) ?_
    · have e : max 0 ((i : Int) - 1) = ((i - 1 : Nat) : Int) := by omega
      simp
      rw [e]
      exact hK
    · rw [natsD_map]
      simp
      refine r_places (by simp; omega) (fun i hi => ?_) ?_
      · obtain ⟨j, hj, rfl⟩ := List.mem_map.mp hi
        have := (hb j hj).2
        omega
      · rw [foldl_dedupe]
        simp [h4]
        exact hk
  · by_cases h62 : c = 62
    · subst h62
      have e1 : stepS ss 62 = revS (mvS (revS ss)) := rfl
      rw [e1] at hk
      unfold stD at hk
      rw [fr, ← st2] at hk
      generalize hT : ss.flatten = T at *
      simp [F_step_key, e_run, w_step_key, g_eqS]
      refine lc1y (α := Nat) (l := sums 0 ss) (fun (i : Nat) => .int i) (fun i => .int ((min T.length (i + 1) : Nat) : Int)) rfl (fun i hi K X hK => ?_) (by rw [sizeLine_eq]; omega) ?_
      · have e : min (T.length : Int) ((i : Int) + 1) = ((min T.length (i + 1) : Nat) : Int) := by omega
        simp [g_lenS, sizeLine_eq]
        rw [e]
        exact ⟨by omega, hK⟩
      · rw [natsD_map]
        simp
        refine r_places (by simp; omega) (fun i hi => ?_) ?_
        · obtain ⟨j, hj, rfl⟩ := List.mem_map.mp hi
          have := (hb j hj).2
          omega
        · rw [foldl_dedupe]
          simp [h4]
          exact hk
    · obtain ⟨s, m, t, rfl, hm⟩ := h
      have hL : (s :: (m ++ [t])).length = m.length + 2 := by simp
      have fm2 : m.flatten.length ≤ 900000 := by
        simp only [List.flatten_cons, List.length_append, List.flatten_append] at hf
        omega
      have hst : s.length + m.flatten.length + t.length ≤ 900000 := by
        simp only [List.flatten_cons, List.length_append, List.flatten_append, List.flatten_nil, List.length_nil] at hf
        omega
      by_cases h35 : c = 35
      · subst h35
        have e1 : stepS (s :: (m ++ [t])) 35 = norm (s :: (m.map (List.drop 1) ++ [t.drop 1])) := by
          rw [norm_form, ← del_form]
          rfl
        rw [e1] at hk
        have hfl := flat_le (List.drop 1) (fun u => by simp; omega) m
        simp [F_step_key, e_run, w_step_key, g_eqS, -List.flatten_cons, -List.flatten_append, -List.flatten_nil]
        refine rs _ _ ?_
        simp [cut_to1, cut_fr1, lits, -List.flatten_cons, -List.flatten_append, -List.flatten_nil]
        refine lc1y (α := List Nat) (l := m ++ [t]) (fun s => .str (S s)) (fun s => .str (S (s.drop 1))) (by simp) (fun u hu K X hK => ?_) (by rw [sizeLine_eq]; simp; omega) ?_
        · have hul : u.length ≤ 900000 := by
            rcases List.mem_append.mp hu with hu | hu
            · have := (List.sublist_flatten_of_mem hu).length_le
              omega
            · rw [List.mem_singleton.mp hu]
              omega
          simp [g_slS, cut_fr1, sizeLine_eq]
          exact ⟨by omega, by simpa using hK⟩
        · have e2 : (PyData.str (S s) :: (m ++ [t]).map fun s => PyData.str (S (s.drop 1))) = strsL (s :: (m.map (List.drop 1) ++ [t.drop 1])) := by simp [strsL]
          rw [e2]
          simp [sizeLine_eq]
          refine ⟨by omega, r_state_with (by simp) (by simp; omega) ?_ (by simpa using hk)⟩
          simp only [List.flatten_cons, List.flatten_append, List.length_append, List.flatten_nil, List.length_nil, List.length_drop, List.length_tail]
          omega
      · by_cases h45 : c = 45
        · subst h45
          have e1 : stepS (s :: (m ++ [t])) 45 = norm (s.dropLast :: (m.map List.dropLast ++ [t])) := by
            rw [norm_form, ← bsS_form]
            rfl
          rw [e1] at hk
          have hfl := flat_le List.dropLast (fun u => by simp; omega) m
          have ed : (strsL (s :: (m ++ [t]))).dropLast = (s :: m).map fun s => PyData.str (S s) := by
            have : strsL (s :: (m ++ [t])) = (s :: m).map (fun s => PyData.str (S s)) ++ [.str (S t)] := by simp [strsL]
            rw [this, List.dropLast_concat]
          have el : (strsL (s :: (m ++ [t]))).drop ((strsL (s :: (m ++ [t]))).length - 1) = [.str (S t)] := by
            have : strsL (s :: (m ++ [t])) = (s :: m).map (fun s => PyData.str (S s)) ++ [.str (S t)] := by simp [strsL]
            rw [this, List.length_append, List.length_singleton, Nat.add_sub_cancel, List.drop_left]
          simp [F_step_key, e_run, w_step_key, g_eqS, -List.flatten_cons, -List.flatten_append, -List.flatten_nil]
          refine rs _ _ ?_
          simp [cut_dropLast, cut_lastM, -List.flatten_cons, -List.flatten_append, -List.flatten_nil]
          rw [ed]
          refine lc1y (α := List Nat) (l := s :: m) (fun s => .str (S s)) (fun s => .str (S s.dropLast)) rfl (fun u hu K X hK => ?_) (by rw [sizeLine_eq]; simp; omega) ?_
          · have hul : u.length ≤ 900000 := by
              rcases List.mem_cons.mp hu with rfl | hu
              · omega
              · have := (List.sublist_flatten_of_mem hu).length_le
                omega
            simp [g_slS, cut_dropLast, sizeLine_eq]
            exact ⟨by omega, by simpa using hK⟩
          · simp [cut_lastM, el, -List.flatten_cons, -List.flatten_append, -List.flatten_nil]
            have e2 : (PyData.str (S s.dropLast) :: (m.map (fun s => PyData.str (S s.dropLast)) ++ [PyData.str (S t)])) = strsL (s.dropLast :: (m.map List.dropLast ++ [t])) := by simp [strsL]
            rw [e2]
            simp [sizeLine_eq]
            refine ⟨by omega, r_state_with (by simp) (by simp; omega) ?_ (by simpa using hk)⟩
            simp only [List.flatten_cons, List.flatten_append, List.length_append, List.flatten_nil, List.length_nil, List.length_dropLast]
            omega
        · have e1 : stepS (s :: (m ++ [t])) c = norm ((s ++ [c]) :: (m.map (· ++ [c]) ++ [t])) := by
            have ef : (m.map (· ++ [c])).filter neL = m.map (· ++ [c]) := List.filter_eq_self.mpr fun u hu => by
              obtain ⟨v, _, rfl⟩ := List.mem_map.mp hu
              simp [neL]
            rw [norm_form, ef]
            have e : typeS c (s :: m ++ [t]) = _ := typeS_form c (s :: m) t
            simp [stepS, h60, h62, h35, h45]
            exact e
          rw [e1] at hk
          have hfl := flat_le (· ++ [c]) (fun u => by simp) m
          have ed : (strsL (s :: (m ++ [t]))).dropLast = (s :: m).map fun s => PyData.str (S s) := by
            have : strsL (s :: (m ++ [t])) = (s :: m).map (fun s => PyData.str (S s)) ++ [.str (S t)] := by simp [strsL]
            rw [this, List.dropLast_concat]
          have el : (strsL (s :: (m ++ [t]))).drop ((strsL (s :: (m ++ [t]))).length - 1) = [.str (S t)] := by
            have : strsL (s :: (m ++ [t])) = (s :: m).map (fun s => PyData.str (S s)) ++ [.str (S t)] := by simp [strsL]
            rw [this, List.length_append, List.length_singleton, Nat.add_sub_cancel, List.drop_left]
          simp [F_step_key, e_run, w_step_key, g_eqS, h60, h62, h35, h45, -List.flatten_cons, -List.flatten_append, -List.flatten_nil]
          refine rs _ _ ?_
          simp [cut_dropLast, cut_lastM, -List.flatten_cons, -List.flatten_append, -List.flatten_nil]
          rw [ed]
          refine lc1y (α := List Nat) (l := s :: m) (fun s => .str (S s)) (fun s => .str (S (s ++ [c]))) rfl (fun u hu K X hK => ?_) (by rw [sizeLine_eq]; simp; omega) ?_
          · have hul : u.length ≤ 900000 := by
              rcases List.mem_cons.mp hu with rfl | hu
              · omega
              · have := (List.sublist_flatten_of_mem hu).length_le
                omega
            simp [g_addS, sizeLine_eq]
            exact ⟨by omega, by simpa using hK⟩
          · simp [cut_lastM, el, -List.flatten_cons, -List.flatten_append, -List.flatten_nil]
            have e2 : (PyData.str (S (s ++ [c])) :: (m.map (fun s => PyData.str (S (s ++ [c]))) ++ [PyData.str (S t)])) = strsL ((s ++ [c]) :: (m.map (· ++ [c]) ++ [t])) := by simp [strsL]
            rw [e2]
            simp [sizeLine_eq]
            refine ⟨by omega, r_state_with (by simp) (by simp; omega) ?_ (by simpa using hk)⟩
            simp only [List.flatten_cons, List.flatten_append, List.length_append, List.flatten_nil, List.length_nil, List.length_singleton]
            omega
end
end Dl

/-! plain laws, part 11: one cursor on marks (pure) -/
namespace Dl
open PySem
open PySem.Spec
open PyProof.Rows
open L2
inductive Itm where
  | m (i : Int)
  | c (n : Nat)
  deriving DecidableEq
def itD : Itm → D
  | .m i => .int i
  | .c n => .str (S [n])
abbrev Zp := List Itm × List Itm
/-- a key at the cursor between what is left (the nearest last) and right (the nearest first) -/
def zstep (s : Zp) (k : Nat) : Zp :=
  if k = 60 then (s.1.dropLast, s.1.getLast?.toList ++ s.2)
  else if k = 62 then (s.1 ++ s.2.take 1, s.2.drop 1)
  else if k = 45 then (s.1.dropLast, s.2)
  else if k = 35 then (s.1, s.2.drop 1)
  else (s.1 ++ [.c k], s.2)
def zfold (z : Zp) (ks : List Nat) : Zp := ks.foldl zstep z
def mk (a : Int) (n : Nat) : List Itm := (List.range n).map fun (i : Nat) => .m (a + i)
theorem mk_len (a : Int) (n : Nat) : (mk a n).length = n := by simp [mk]
theorem mk_app (a : Int) (n p : Nat) : mk a (n + p) = mk a n ++ mk (a + n) p := by
  unfold mk
  rw [List.range_add, List.map_append, List.map_map]
  congr 1
  refine List.map_congr_left fun i _ => ?_
  show Itm.m _ = Itm.m _
  congr 1
  push_cast
  omega
theorem mk_succ (a : Int) (n : Nat) : mk a (n + 1) = .m a :: mk (a + 1) n := by
  rw [Nat.add_comm, mk_app]
  have e : mk a 1 = [.m a] := by simp [mk]
  rw [e]
  rfl
theorem mk_snoc (a : Int) (n : Nat) : mk a (n + 1) = mk a n ++ [.m (a + n)] := by
  rw [mk_app]
  congr 1
  simp [mk]
/-- the program's own run: reaches, and what is between them -/
structure Far where
  a : Nat
  b : Nat
  l : List Itm
  r : List Itm
def padF (f : Far) (k : Nat) : Far :=
  let f1 : Far := if (k = 45 ∨ k = 60) ∧ f.l = [] then ⟨f.a + 1, f.b, [.m (-((f.a + 1 : Nat) : Int))], f.r⟩ else f
  if (k = 35 ∨ k = 62) ∧ f1.r = [] then ⟨f1.a, f1.b + 1, f1.l, [.m f1.b]⟩ else f1
def stepFar (f : Far) (k : Nat) : Far := ⟨(padF f k).a, (padF f k).b, (zstep ((padF f k).l, (padF f k).r) k).1, (zstep ((padF f k).l, (padF f k).r) k).2⟩
def runF' (ks : List Nat) : Far := ks.foldl stepFar ⟨0, 0, [], []⟩
def emb (w : Nat) (f : Far) : Zp := (mk (-(w : Int)) (w - f.a) ++ f.l, f.r ++ mk f.b (w - f.b))
theorem pad_emb {w : Nat} {f : Far} (k : Nat) (ha : f.a < w) (hb : f.b < w) : emb w (padF f k) = emb w f ∧ (padF f k).a ≤ f.a + 1 ∧ (padF f k).b ≤ f.b + 1 ∧ f.a ≤ (padF f k).a ∧ f.b ≤ (padF f k).b := by
  have h1 : ∀ (f : Far), f.a < w → f.l = [] → emb w ⟨f.a + 1, f.b, [.m (-((f.a + 1 : Nat) : Int))], f.r⟩ = emb w f := by
    intro f ha hl
    unfold emb
    dsimp only
    rw [hl]
    have e : w - f.a = (w - (f.a + 1)) + 1 := by omega
    rw [e, mk_snoc, List.append_nil]
    have e2 : -((f.a + 1 : Nat) : Int) = -(w : Int) + ((w - (f.a + 1) : Nat) : Int) := by omega
    rw [e2]
  have h2 : ∀ (f : Far), f.b < w → f.r = [] → emb w ⟨f.a, f.b + 1, f.l, [.m f.b]⟩ = emb w f := by
    intro f hb hr
    unfold emb
    dsimp only
    rw [hr]
    have e : w - f.b = (w - (f.b + 1)) + 1 := by omega
    rw [e, mk_succ, List.nil_append]
    congr 1
  unfold padF
  dsimp only
  by_cases hA : (k = 45 ∨ k = 60) ∧ f.l = []
  · rw [if_pos hA]
    by_cases hB : (k = 35 ∨ k = 62) ∧ f.r = []
    · rw [if_pos hB]
      refine ⟨?_, by simp, by simp, by simp, by simp⟩
      rw [h2 ⟨f.a + 1, f.b, [.m (-((f.a + 1 : Nat) : Int))], f.r⟩ hb hB.2]
      exact h1 f ha hA.2
    · rw [if_neg hB]
      exact ⟨h1 f ha hA.2, by simp, by simp, by simp, by simp⟩
  · rw [if_neg hA]
    by_cases hB : (k = 35 ∨ k = 62) ∧ f.r = []
    · rw [if_pos hB]
      exact ⟨h2 f hb hB.2, by simp, by simp, by simp, by simp⟩
    · rw [if_neg hB]
      exact ⟨rfl, by simp, by simp, by simp, by simp⟩
theorem pad_ne (f : Far) (k : Nat) : ((k = 45 ∨ k = 60) → (padF f k).l ≠ []) ∧ ((k = 35 ∨ k = 62) → (padF f k).r ≠ []) := by
  unfold padF
  dsimp only
  by_cases hA : (k = 45 ∨ k = 60) ∧ f.l = []
  · rw [if_pos hA]
    by_cases hB : (k = 35 ∨ k = 62) ∧ f.r = []
    · rw [if_pos hB]
      exact ⟨fun _ => by simp, fun _ => by simp⟩
    · rw [if_neg hB]
      exact ⟨fun _ => by simp, fun h z => hB ⟨h, z⟩⟩
  · rw [if_neg hA]
    by_cases hB : (k = 35 ∨ k = 62) ∧ f.r = []
    · rw [if_pos hB]
      exact ⟨fun h z => hA ⟨h, z⟩, fun _ => by simp⟩
    · rw [if_neg hB]
      exact ⟨fun h z => hA ⟨h, z⟩, fun h z => hB ⟨h, z⟩⟩
theorem zstep_emb {w : Nat} {f : Far} {k : Nat} (h1 : (k = 45 ∨ k = 60) → f.l ≠ []) (h2 : (k = 35 ∨ k = 62) → f.r ≠ []) : zstep (emb w f) k = emb w ⟨f.a, f.b, (zstep (f.l, f.r) k).1, (zstep (f.l, f.r) k).2⟩ := by
  have dl : f.l ≠ [] → (mk (-(w : Int)) (w - f.a) ++ f.l).dropLast = mk (-(w : Int)) (w - f.a) ++ f.l.dropLast := fun h => List.dropLast_append_of_ne_nil h
  have gl : f.l ≠ [] → (mk (-(w : Int)) (w - f.a) ++ f.l).getLast? = f.l.getLast? := fun h => by
    rw [List.getLast?_append, List.getLast?_eq_getLast h]
    rfl
  have tk : f.r ≠ [] → (f.r ++ mk f.b (w - f.b)).take 1 = f.r.take 1 ∧ (f.r ++ mk f.b (w - f.b)).drop 1 = f.r.drop 1 ++ mk f.b (w - f.b) := fun h => by
    cases hr : f.r with
    | nil => exact absurd hr h
    | cons x r => simp
  unfold zstep emb
  dsimp only
  by_cases h60 : k = 60
  · rw [if_pos h60, if_pos h60]
    have := h1 (.inr h60)
    dsimp only
    rw [dl this, gl this, List.append_assoc]
  · rw [if_neg h60, if_neg h60]
    by_cases h62 : k = 62
    · rw [if_pos h62, if_pos h62]
      have := tk (h2 (.inr h62))
      dsimp only
      rw [this.1, this.2, List.append_assoc]
    · rw [if_neg h62, if_neg h62]
      by_cases h45 : k = 45
      · rw [if_pos h45, if_pos h45]
        dsimp only
        rw [dl (h1 (.inl h45))]
      · rw [if_neg h45, if_neg h45]
        by_cases h35 : k = 35
        · rw [if_pos h35, if_pos h35]
          dsimp only
          rw [(tk (h2 (.inl h35))).2]
        · rw [if_neg h35, if_neg h35]
          dsimp only
          rw [List.append_assoc]
theorem far_step {w : Nat} {f : Far} (k : Nat) (ha : f.a < w) (hb : f.b < w) : zstep (emb w f) k = emb w (stepFar f k) ∧ (stepFar f k).a ≤ f.a + 1 ∧ (stepFar f k).b ≤ f.b + 1 := by
  obtain ⟨e, q1, q2, _, _⟩ := pad_emb k ha hb
  obtain ⟨n1, n2⟩ := pad_ne f k
  refine ⟨?_, q1, q2⟩
  rw [← e, zstep_emb n1 n2]
  rfl
theorem far_run : ∀ (ks : List Nat) (f : Far) (w n : Nat), f.a ≤ n → f.b ≤ n → n + ks.length ≤ w → zfold (emb w f) ks = emb w (ks.foldl stepFar f) ∧ (ks.foldl stepFar f).a ≤ n + ks.length ∧ (ks.foldl stepFar f).b ≤ n + ks.length
  | [], f, w, n, h1, h2, _ => ⟨rfl, h1, h2⟩
  | k :: ks, f, w, n, h1, h2, hw => by
    rw [List.length_cons] at hw
    obtain ⟨e, q1, q2⟩ := far_step (w := w) (f := f) k (by omega) (by omega)
    obtain ⟨e2, q3, q4⟩ := far_run ks (stepFar f k) w (n + 1) (by omega) (by omega) (by omega)
    refine ⟨?_, by rw [List.foldl_cons, List.length_cons]; omega, by rw [List.foldl_cons, List.length_cons]; omega⟩
    show zfold (zstep (emb w f) k) ks = _
    rw [e, e2]
    rfl
/-- lists that undo one another -/
def Alike (s t : List Nat) : Prop := ∀ z, zfold z t = zfold z s
theorem Alike.trans {a b c : List Nat} (h1 : Alike a b) (h2 : Alike b c) : Alike a c := fun z => (h2 z).trans (h1 z)
theorem Alike.refl (a : List Nat) : Alike a a := fun _ => rfl
end Dl

/-! plain laws, part 11b: the program's reach, the law's marks -/
namespace Dl
open PySem
open PySem.Spec
open PyProof.Rows
open L2
theorem last_split' {α : Type} (l : List α) : l.dropLast ++ l.getLast?.toList = l := by
  cases h : l with
  | nil => rfl
  | cons a r =>
    rw [← h, List.getLast?_eq_getLast (by rw [h]; simp)]
    exact List.dropLast_concat_getLast _
def IB (x : Itm) : Prop := Fit 0 200 (itD x)
theorem ib_m {i : Int} (h : i.natAbs < 10 ^ 60) : IB (.m i) := fit_int h
theorem ib_c {n : Nat} (h : n < 0x110000) : IB (.c n) := (fit_str (l := [n]) (by simpa using h)).mono (Nat.le_refl _) (by simp)
theorem zstep_mem (s : Zp) (k : Nat) : ∀ x ∈ (zstep s k).1 ++ (zstep s k).2, x ∈ s.1 ++ s.2 ∨ x = .c k := by
  intro x hx
  have hd : ∀ x ∈ s.1.dropLast, x ∈ s.1 := fun x h => List.dropLast_subset _ h
  have hg : ∀ x ∈ s.1.getLast?.toList, x ∈ s.1 := fun x h => by
    have := last_split' s.1
    rw [← this]
    exact List.mem_append_right _ h
  unfold zstep at hx
  split at hx
  · dsimp only at hx
    rcases List.mem_append.mp hx with hx | hx
    · exact .inl (List.mem_append_left _ (hd x hx))
    · rcases List.mem_append.mp hx with hx | hx
      · exact .inl (List.mem_append_left _ (hg x hx))
      · exact .inl (List.mem_append_right _ hx)
  · split at hx
    · dsimp only at hx
      rw [List.append_assoc, List.take_append_drop] at hx
      exact .inl hx
    · split at hx
      · dsimp only at hx
        rcases List.mem_append.mp hx with hx | hx
        · exact .inl (List.mem_append_left _ (hd x hx))
        · exact .inl (List.mem_append_right _ hx)
      · split at hx
        · dsimp only at hx
          rcases List.mem_append.mp hx with hx | hx
          · exact .inl (List.mem_append_left _ hx)
          · exact .inl (List.mem_append_right _ (List.drop_subset _ _ hx))
        · dsimp only at hx
          rcases List.mem_append.mp hx with hx | hx
          · rcases List.mem_append.mp hx with hx | hx
            · exact .inl (List.mem_append_left _ hx)
            · exact .inr (List.mem_singleton.mp hx)
          · exact .inl (List.mem_append_right _ hx)
theorem zstep_len (s : Zp) (k : Nat) : (zstep s k).1.length + (zstep s k).2.length ≤ s.1.length + s.2.length + 1 := by
  have hg : s.1.dropLast.length + s.1.getLast?.toList.length = s.1.length := by
    rw [← List.length_append, last_split']
  unfold zstep
  split
  · dsimp only
    rw [List.length_append]
    omega
  · split
    · dsimp only
      rw [List.length_append, List.length_take, List.length_drop]
      omega
    · split
      · dsimp only
        rw [List.length_dropLast]
        omega
      · split
        · dsimp only
          rw [List.length_drop]
          omega
        · dsimp only
          rw [List.length_append, List.length_singleton]
          omega
theorem fit_its {l : List Itm} {N : Nat} (hn : l.length ≤ N) (hb : ∀ x ∈ l, IB x) : Fit 1 (N * 201) (.list (l.map itD)) ∧ Fit 1 (N * 201) (.tuple (l.map itD)) := by
  have h : ∀ d ∈ l.map itD, Fit 0 200 d := fun d hd => by
    obtain ⟨x, hx, rfl⟩ := List.mem_map.mp hd
    exact hb x hx
  exact ⟨fit_list h (by simpa using hn), fit_tup h (by simpa using hn)⟩
section
variable {st st0 : Sto} {k : KS} {x : XS0} {n m : Nat}
/-! ### the program's reach -/
structure FOk (n : Nat) (f : Far) : Prop where
  a : f.a ≤ n
  b : f.b ≤ n
  ln : f.l.length + f.r.length ≤ 3 * n
  ib : ∀ x ∈ f.l ++ f.r, IB x
theorem FOk.pad {n : Nat} {f : Far} (h : FOk n f) (hn : n ≤ 10000) (c : Nat) : (padF f c).a ≤ n + 1 ∧ (padF f c).b ≤ n + 1 ∧ (padF f c).l.length + (padF f c).r.length ≤ 3 * n + 2 ∧ ∀ x ∈ (padF f c).l ++ (padF f c).r, IB x := by
  have h1 := h.a
  have h2 := h.b
  have h3 := h.ln
  have h4 := h.ib
  unfold padF
  dsimp only
  by_cases hA : (c = 45 ∨ c = 60) ∧ f.l = []
  · rw [if_pos hA]
    rw [hA.2] at h3 h4
    have i1 : IB (.m (-((f.a + 1 : Nat) : Int))) := ib_m (by omega)
    by_cases hB : (c = 35 ∨ c = 62) ∧ f.r = []
    · rw [if_pos hB]
      have i2 : IB (.m f.b) := ib_m (by omega)
      refine ⟨by simp; omega, by simp; omega, by simp, fun x hx => ?_⟩
      simp at hx
      rcases hx with rfl | rfl
      · exact i1
      · exact i2
    · rw [if_neg hB]
      refine ⟨by simp; omega, by simp; omega, by simp at h3 ⊢; omega, fun x hx => ?_⟩
      rcases List.mem_cons.mp hx with rfl | hx
      · exact i1
      · exact h4 x (by simpa using hx)
  · rw [if_neg hA]
    by_cases hB : (c = 35 ∨ c = 62) ∧ f.r = []
    · rw [if_pos hB]
      rw [hB.2] at h3 h4
      have i2 : IB (.m f.b) := ib_m (by omega)
      refine ⟨by simp; omega, by simp; omega, by simp at h3 ⊢; omega, fun x hx => ?_⟩
      rcases List.mem_append.mp hx with hx | hx
      · exact h4 x (by simpa using hx)
      · rw [List.mem_singleton.mp hx]
        exact i2
    · rw [if_neg hB]
      exact ⟨by omega, by omega, by omega, h4⟩
theorem FOk.step {n c : Nat} {f : Far} (h : FOk n f) (hn : n ≤ 10000) (hc : c < 0x110000) : FOk (n + 1) (stepFar f c) := by
  obtain ⟨h1, h2, h3, h4⟩ := h.pad hn c
  have hl := zstep_len ((padF f c).l, (padF f c).r) c
  refine ⟨h1, h2, ?_, fun x hx => ?_⟩
  · show (zstep ((padF f c).l, (padF f c).r) c).1.length + (zstep ((padF f c).l, (padF f c).r) c).2.length ≤ _
    simp only at hl
    omega
  · rcases zstep_mem ((padF f c).l, (padF f c).r) c x hx with hx | rfl
    · exact h4 x hx
    · exact ib_c hc
def farD (f : Far) : D := .tuple [.int f.a, .int f.b, .list (f.l.map itD), .list (f.r.reverse.map itD)]
theorem u_pop1 {ds : List D} {d : D} {kk : D → List D → Prop} : uPop (ds ++ [d]) [] kk = kk d ds := by
  show (match (ds ++ [d]).getLast? with
    | some d' => kk d' (ds ++ [d]).dropLast
    | none => False) = _
  rw [List.getLast?_concat, List.dropLast_concat]
theorem u_pop0 {d : D} {kk : D → List D → Prop} : uPop [d] [] kk = kk d [] := u_pop1 (ds := [])
theorem r_far_run {ks : List Nat} (hz : ks.length ≤ 1000) (hk : ∀ c ∈ ks, c < 0x110000) (h : k (.d (farD (runF' ks))) st) : F_far_run [.d (.str (S ks))] st k x := by
  simp [F_far_run, e_run, w_far_run, signs_S]
  refine loopF_fold (α := Nat) (σ := Far) sign stepFar (fun l f => (∀ c ∈ l, c < 0x110000) ∧ ∃ n, FOk n f ∧ n + l.length ≤ 1000)
    (fun f r => ∃ y5 : Option D, r = ⟨[some (.d (.str (S ks))), some (.d (.int f.a)), some (.d (.int f.b)), some (.l st.length), some (.l (st.length + 1)), y5.map R.d], st ++ [some (f.l.map itD), some (f.r.reverse.map itD)]⟩) ?_ ?_ ks ⟨0, 0, [], []⟩ _ ⟨hk, 0, ⟨by simp, by simp, by simp, by simp⟩, by omega⟩ ⟨none, rfl⟩ ?_
  · rintro c l f r K ⟨g1, n, g2, g3⟩ ⟨y5, rfl⟩ hK
    simp only [List.length_cons] at g3
    have hc := g1 c (by simp)
    have ga := g2.a
    have gb := g2.b
    have gl := g2.ln
    have gi := g2.ib
    obtain ⟨a, b, L, Rr⟩ := f
    dsimp only at ga gb gl gi
    have go : ∀ (f' : Far) (ia ib : Int) (X Y : List D), stepFar ⟨a, b, L, Rr⟩ c = f' → ia = f'.a → ib = f'.b → X = f'.l.map itD → Y = (f'.r.map itD).reverse → K ⟨[some (.d (.str (S ks))), some (.d (.int ia)), some (.d (.int ib)), some (.l st.length), some (.l (st.length + 1)), some (.d (.str (S [c])))], st ++ [some X, some Y]⟩ := by
      rintro f' ia ib X Y rfl rfl rfl rfl rfl
      exact hK _ ⟨some (.str (S [c])), by simp⟩
    have fL : Fit 1 (4000 * 201) (.list (L.map itD)) := (fit_its (N := 4000) (by omega) fun x hx => gi x (List.mem_append_left _ hx)).1
    have fR : Fit 1 (4000 * 201) (.list (Rr.map itD).reverse) := by
      rw [← List.map_reverse]
      exact (fit_its (N := 4000) (by simp; omega) fun x hx => gi x (List.mem_append_right _ (by simpa using hx))).1
    simp [sign_S, g_eqS]
    have lastc : L = [] ∨ ∃ l' y, L = l' ++ [y] := by
      rcases List.eq_nil_or_concat L with h | ⟨l', y, h⟩
      · exact .inl h
      · exact .inr ⟨l', y, by simpa using h⟩
    by_cases h45 : c = 45
    · subst h45
      simp
      refine g_eqNil fL (by decide) ?_
      rcases lastc with rfl | ⟨l', y, rfl⟩
      · simp [uAppend, sizeLine_eq, u_pop0]
        exact go ⟨a + 1, b, [], Rr⟩ _ _ _ _ (by simp [stepFar, padF, zstep]) (by simp) rfl rfl rfl
      · simp [u_pop1]
        exact go ⟨a, b, l', Rr⟩ _ _ _ _ (by simp [stepFar, padF, zstep]) rfl rfl rfl rfl
    · by_cases h60 : c = 60
      · subst h60
        simp
        refine g_eqNil fL (by decide) ?_
        rcases lastc with rfl | ⟨l', y, rfl⟩
        · simp [uAppend, sizeLine_eq, u_pop0]
          refine ⟨by simp at gl; omega, ?_⟩
          exact go ⟨a + 1, b, [], .m (-((a + 1 : Nat) : Int)) :: Rr⟩ _ _ _ _ (by simp [stepFar, padF, zstep]) (by simp) rfl rfl (by simp [itD])
        · simp [u_pop1, uAppend, sizeLine_eq]
          refine ⟨by simp at gl; omega, ?_⟩
          exact go ⟨a, b, l', y :: Rr⟩ _ _ _ _ (by simp [stepFar, padF, zstep]) rfl rfl rfl (by simp)
      · by_cases h35 : c = 35
        · subst h35
          simp
          refine g_eqNil fR (by decide) ?_
          cases Rr with
          | nil =>
            simp [uAppend, sizeLine_eq, u_pop0]
            exact go ⟨a, b + 1, L, []⟩ _ _ _ _ (by simp [stepFar, padF, zstep]) rfl (by simp) rfl rfl
          | cons y r' =>
            simp [u_pop1]
            exact go ⟨a, b, L, r'⟩ _ _ _ _ (by simp [stepFar, padF, zstep]) rfl rfl rfl rfl
        · by_cases h62 : c = 62
          · subst h62
            simp
            refine g_eqNil fR (by decide) ?_
            cases Rr with
            | nil =>
              simp [uAppend, sizeLine_eq, u_pop0]
              refine ⟨by simp at gl; omega, ?_⟩
              exact go ⟨a, b + 1, L ++ [.m b], []⟩ _ _ _ _ (by simp [stepFar, padF, zstep]) rfl (by simp) (by simp [itD]) rfl
            | cons y r' =>
              simp [u_pop1, uAppend, sizeLine_eq]
              refine ⟨by simp at gl; omega, ?_⟩
              exact go ⟨a, b, L ++ [y], r'⟩ _ _ _ _ (by simp [stepFar, padF, zstep]) rfl rfl (by simp) rfl
          · simp [h45, h60, h35, h62, uAppend, sizeLine_eq]
            refine ⟨by omega, ?_⟩
            exact go ⟨a, b, L ++ [.c c], Rr⟩ _ _ _ _ (by simp [stepFar, padF, zstep, h45, h60, h35, h62]) rfl rfl (by simp [itD]) rfl
  · rintro c l f ⟨g1, n, g2, g3⟩
    simp only [List.length_cons] at g3
    exact ⟨fun d hd => g1 d (List.mem_cons_of_mem _ hd), n + 1, g2.step (by omega) (g1 c (by simp)), by omega⟩
  · rintro r ⟨y5, rfl⟩
    simp [sizeLine_eq]
    simpa [farD, runF'] using h
end
end Dl

/-! plain laws, part 11c: same_far; draws of keys -/
namespace Dl
open PySem
open PySem.Spec
open PyProof.Rows
open L2
theorem run_ok : ∀ (ks : List Nat) (f : Far) (n : Nat), FOk n f → n + ks.length ≤ 10000 → (∀ c ∈ ks, c < 0x110000) → FOk (n + ks.length) (ks.foldl stepFar f)
  | [], f, n, h, _, _ => h
  | c :: ks, f, n, h, hn, hk => by
    rw [List.length_cons] at hn
    have := run_ok ks (stepFar f c) (n + 1) (h.step (by omega) (hk c (by simp))) (by omega) fun d hd => hk d (List.mem_cons_of_mem _ hd)
    have e : n + (c :: ks).length = n + 1 + ks.length := by rw [List.length_cons]; omega
    rw [e]
    exact this
theorem run_ok0 {ks : List Nat} (hn : ks.length ≤ 10000) (hk : ∀ c ∈ ks, c < 0x110000) : FOk ks.length (runF' ks) := by
  have := run_ok ks ⟨0, 0, [], []⟩ 0 ⟨by simp, by simp, by simp, by simp⟩ (by omega) hk
  simpa [runF'] using this
section
variable {st st0 : Sto} {k : KS} {x : XS0} {n m : Nat}
def effD (f : Far) : D := .tuple [.int f.a, .int f.b, .tuple ((f.l ++ f.r).map itD), .int f.l.length]
theorem r_effect_of {ks : List Nat} (hz : ks.length ≤ 1000) (hk : ∀ c ∈ ks, c < 0x110000) (h : k (.d (effD (runF' ks))) st) : F_effect_of [.d (.str (S ks))] st k x := by
  have ho := run_ok0 (by omega) hk
  have hl := ho.ln
  simp [F_effect_of, e_run, w_effect_of]
  refine r_far_run hz hk ?_
  simp [farD, sizeLine_eq]
  refine ⟨by omega, ?_⟩
  simpa [effD] using h
/-! ### draws -/
end
end Dl

/-! plain law k11 -/
namespace Dl
open PySem
open PySem.Spec
open PyProof.Rows
open L2
section
variable {st st0 : Sto} {k : KS} {x : XS0} {n m : Nat}
theorem KeyRow.app {a b : Nat} {u v : List Nat} (h1 : KeyRow a u) (h2 : KeyRow b v) : KeyRow (a + b) (u ++ v) := by
  refine ⟨by have := h1.1; have := h2.1; rw [List.length_append]; omega, fun c hc => ?_⟩
  rcases List.mem_append.mp hc with hc | hc
  · exact h1.2 c hc
  · exact h2.2 c hc
theorem KeyRow.take {a J : Nat} {u : List Nat} (h1 : KeyRow a u) : KeyRow a (u.take J) := ⟨by have := h1.1; rw [List.length_take]; omega, fun c hc => h1.2 c (List.take_subset _ _ hc)⟩
theorem KeyRow.drop {a J : Nat} {u : List Nat} (h1 : KeyRow a u) : KeyRow a (u.drop J) := ⟨by have := h1.1; rw [List.length_drop]; omega, fun c hc => h1.2 c (List.drop_subset _ _ hc)⟩
theorem KeyRow.mono {a b : Nat} {u : List Nat} (h1 : KeyRow a u) (h : a ≤ b) : KeyRow b u := ⟨Nat.le_trans h1.1 h, h1.2⟩
theorem KeyRow.ins {a b J : Nat} {u v : List Nat} (h1 : KeyRow a u) (h2 : KeyRow b v) : KeyRow (a + b) (u.take J ++ v ++ u.drop J) := by
  have e : (u.take J ++ v ++ u.drop J).length = u.length + v.length := by
    simp only [List.length_append, List.length_take, List.length_drop]
    omega
  refine ⟨by have := h1.1; have := h2.1; omega, fun c hc => ?_⟩
  rcases List.mem_append.mp hc with hc | hc
  · rcases List.mem_append.mp hc with hc | hc
    · exact h1.2 c (List.take_subset _ _ hc)
    · exact h2.2 c hc
  · exact h1.2 c (List.drop_subset _ _ hc)
end
end Dl

/-! plain laws, part 28: effects judged -/
namespace Dl
open PySem
open PySem.Spec
open PyProof.Rows
open L2
/-! ### judged, pure -/
def isLetD : D → Bool
  | .str z => (z.cps.size == 1) && z.cps.toList.all fun c => decide (c ∈ low)
  | _ => false
/-- the program's way -/
def itemsB (hi : Int) : Int → List D → Bool
  | _, [] => true
  | lo, d :: ds => if isLetD d = true then itemsB hi lo ds else match d with
    | .int i => decide (lo ≤ i ∧ i ≤ hi - 1) && itemsB hi (i + 1) ds
    | _ => false
def effB : D → Bool
  | .tuple [.int l, .int r, .tuple items, .int p] => decide (0 ≤ l) && (decide (0 ≤ r) && (itemsB r (0 - l) items && decide (0 ≤ p ∧ p ≤ items.length)))
  | _ => false
def notStr : D → Bool
  | .str _ => false
  | _ => true
def badStr : D → Bool
  | .str z => !isLetD (.str z)
  | _ => false
theorem itemsB_num {hi lo : Int} {d : D} {ds : List D} (h : notStr d = true) (hb : itemsB hi lo (d :: ds) = true) : ∃ i, d = .int i ∧ lo ≤ i ∧ i < hi ∧ itemsB hi (i + 1) ds = true := by
  unfold itemsB at hb
  cases d with
  | int i =>
    simp [isLetD] at hb
    exact ⟨i, rfl, hb.1.1, by omega, hb.2⟩
  | str z => simp [notStr] at h
  | _ => simp [isLetD] at hb
theorem items_iff : ∀ (ds : List D) (hi lo : Int), itemsB hi lo ds = true ↔ (ds.filter badStr = [] ∧ ∃ ns : List Int, ds.filter notStr = ns.map PyData.int ∧ (∀ i ∈ ns, lo ≤ i ∧ i < hi) ∧ ns.Pairwise (· < ·))
  | [], hi, lo => by simp [itemsB]
  | d :: ds, hi, lo => by
    have ih := items_iff ds
    by_cases hs : notStr d = true
    · have hnl : isLetD d = false := by cases d <;> simp [notStr, isLetD] at hs ⊢
      have hnb : badStr d = false := by cases d <;> simp [notStr, badStr] at hs ⊢
      rw [List.filter_cons_of_neg (by simp [hnb]), List.filter_cons_of_pos hs]
      constructor
      · intro hb
        obtain ⟨i, rfl, h1, h2, h3⟩ := itemsB_num hs hb
        obtain ⟨q1, ns, q2, q3, q4⟩ := (ih hi (i + 1)).mp h3
        refine ⟨q1, i :: ns, by rw [q2]; rfl, fun j hj => ?_, List.pairwise_cons.mpr ⟨fun j hj => ?_, q4⟩⟩
        · rcases List.mem_cons.mp hj with rfl | hj
          · exact ⟨h1, h2⟩
          · have := q3 j hj
            omega
        · have := q3 j hj
          omega
      · rintro ⟨q1, ns, q2, q3, q4⟩
        cases ns with
        | nil => cases q2
        | cons i ns =>
          obtain ⟨e1, e2⟩ := List.cons.inj q2
          subst e1
          have h0 := q3 i (by simp)
          have hp := List.pairwise_cons.mp q4
          have h3 : itemsB hi (i + 1) ds = true := (ih hi (i + 1)).mpr ⟨q1, ns, e2, fun j hj => by
            have := hp.1 j hj
            have := q3 j (by simp [hj])
            omega, hp.2⟩
          unfold itemsB
          simp [isLetD, h3]
          omega
    · have hsf : notStr d = false := by simpa using hs
      rw [List.filter_cons_of_neg (p := notStr) (by simp [hsf])]
      cases d with
      | str z =>
        by_cases hl : isLetD (.str z) = true
        · have hnb : badStr (.str z) = false := by simp [badStr, hl]
          rw [List.filter_cons_of_neg (by simp [hnb])]
          unfold itemsB
          rw [if_pos hl]
          exact ih hi lo
        · have hnb : badStr (.str z) = true := by simp [badStr, hl]
          rw [List.filter_cons_of_pos hnb]
          unfold itemsB
          rw [if_neg hl]
          simp
      | _ => simp [notStr] at hsf
/-! ### the defs on any data -/
def shortS : D → Prop
  | .str z => z.cps.size ≤ 1000
  | _ => True
section
variable {st st0 : Sto} {k : KS} {x : XS0} {n m : Nat}
@[simp] theorem i_dict {T : String} {es : List (D × D)} : isiD T (.dict es) = decide (T = "dict") := by
  simp [isiD, tyS, eq_comm]
def numB2 (lo hi : Int) : D → Bool
  | .int i => decide (lo ≤ i ∧ i ≤ hi)
  | _ => false
theorem effB_eq {l r : Int} {items : List D} {d : D} (h1 : 0 ≤ l) (h2 : 0 ≤ r) : effB (.tuple [.int l, .int r, .tuple items, d]) = (itemsB r (0 - l) items && numB2 0 items.length d) := by
  cases d <;> simp [effB, numB2, h1, h2]
end
end Dl

/-! plain laws, part 28b: the law's own judging -/
namespace Dl
open PySem
open PySem.Spec
open PyProof.Rows
open L2
@[simp ↓] theorem g_neN {l : List D} {kb : Bool → Prop} : gNeN (.list l) (.list []) kb = kb (!l.isEmpty) := rfl
section
variable {st st0 : Sto} {k : KS} {x : XS0} {n m : Nat}
end
end Dl

/-! plain laws, part 28c: things, changed effects -/
namespace Dl
open PySem
open PySem.Spec
open PyProof.Rows
open L2
def FitE (h w : Nat) (d : D) : Prop := tupOnly d = true ∧ d.depth ≤ h ∧ d.showable = true ∧ d.leavesShort 70 = true ∧ d.weight ≤ w
theorem FitE.mono {h w h' w' : Nat} {d : D} (f : FitE h w d) (h1 : h ≤ h') (h2 : w ≤ w') : FitE h' w' d := ⟨f.1, Nat.le_trans f.2.1 h1, f.2.2.1, f.2.2.2.1, Nat.le_trans f.2.2.2.2 h2⟩
theorem fitE_dict : FitE 1 200 (.dict []) := ⟨by simp [tupOnly], by simp [PyData.depth, PyData.depthKv], by simp [PyData.showable, PyData.showableKv], by simp [PyData.leavesShort, PyData.leavesShortKv], by simp [PyData.weight, PyData.weightKv]⟩
def reprOk (d : D) : Prop := (shp d = true ∨ (tupOnly d = true ∧ d.depth ≤ 64)) ∧ d.showable = true ∧ d.shown.length ≤ sizeLine
theorem shown_ok {d : D} {w : Nat} (h1 : d.leavesShort 70 = true) (h2 : d.weight ≤ w) (hw : w ≤ 200000) : d.shown.length ≤ sizeLine := by
  have := PyData.shown_le 70 (by decide) d h1
  have h2 : 72 * d.weight ≤ 72 * 200000 := Nat.mul_le_mul_left _ (Nat.le_trans h2 hw)
  rw [sizeLine_eq]
  omega
theorem Fit.ok {h w : Nat} {d : D} (f : Fit h w d) (hh : h ≤ 64) (hw : w ≤ 200000) : reprOk d := ⟨.inl (f.shp hh), f.2.2.1, shown_ok f.2.2.2.1 f.2.2.2.2 hw⟩
theorem FitE.ok {h w : Nat} {d : D} (f : FitE h w d) (hh : h ≤ 64) (hw : w ≤ 200000) : reprOk d := ⟨.inr ⟨f.1, Nat.le_trans f.2.1 hh⟩, f.2.2.1, shown_ok f.2.2.2.1 f.2.2.2.2 hw⟩
/-- an item of an effect -/
def ItOk (d : D) : Prop := (∃ i : Int, i.natAbs < 10 ^ 60 ∧ d = .int i) ∨ (∃ c : Nat, c < 0x110000 ∧ d = .str (S [c]))
theorem ItOk.fit {d : D} (h : ItOk d) : Fit 0 200 d := by
  rcases h with ⟨i, hi, rfl⟩ | ⟨c, hc, rfl⟩
  · exact fit_int hi
  · exact ib_c hc
theorem ItOk.tup {d : D} (h : ItOk d) : tupOnly d = true := by
  rcases h with ⟨i, hi, rfl⟩ | ⟨c, hc, rfl⟩ <;> simp [tupOnly]
theorem ItOk.sh {d : D} (h : ItOk d) : shortS d := by
  rcases h with ⟨i, hi, rfl⟩ | ⟨c, hc, rfl⟩
  · trivial
  · show ([c] : List Nat).length ≤ 1000
    simp
/-- what is put in -/
inductive One : D → Prop
  | fit {d : D} (h : Fit 1 300 d) (s : shortS d) (t : ∀ es, d = .tuple es → es.length ≤ 10 ∧ ∀ e ∈ es, shortS e) : One d
  | dic : One (.dict [])
theorem One.sh {d : D} (h : One d) : shortS d := by
  cases h with
  | fit h s t => exact s
  | dic => trivial
theorem One.parts {d : D} (h : One d) : Fit 2 30000 d ∨ (FitE 2 30000 d) := by
  cases h with
  | fit h s t => exact .inl (h.mono (by omega) (by omega))
  | dic => exact .inr (fitE_dict.mono (by omega) (by omega))
def PSm (x : D) : Prop := ∀ es, x = .tuple es → es.length ≤ 1000 ∧ ∀ e ∈ es, shortS e
def Part (x : D) : Prop := (Fit 2 30000 x ∧ FitE 2 30000 x) ∧ PSm x
def PartO (x : D) : Prop := (Fit 2 30000 x ∨ FitE 2 30000 x) ∧ PSm x
theorem Part.o {x : D} (h : Part x) : PartO x := ⟨.inl h.1.1, h.2⟩
section
variable {st st0 : Sto} {k : KS} {x : XS0} {n m : Nat}
end
end Dl

/-! plain laws, part 28d: effects made -/
namespace Dl
open PySem
open PySem.Spec
open PyProof.Rows
open L2
section
variable {st st0 : Sto} {k : KS} {x : XS0} {n m : Nat}
end
end Dl

/-! plain laws: instances -/
namespace Dl
open PySem
open PySem.Spec
open PyProof.Rows
open L2
section
variable {sl : List (Option R)} {st : Sto} {k : KE} {x : XQ} {p : Post} {i j n : Nat} {d : D} {y : R} {ds es : List D} {kvs : List (D × D)} {cns : List Str} {cn : Str}
def rdO (d : D) (A : D → Prop) (B : Prop) : Prop := match unown d with
  | some d' => A d'
  | none => B
@[simp ↓] theorem e_rdL {A : D → Prop} {B : Prop} : rdO (ownL es) A B = A (.list es) := Eq.trans rfl rfl
@[simp ↓] theorem e_rdK {A : D → Prop} {B : Prop} : rdO (ownK kvs) A B = A (.dict kvs) := Eq.trans rfl rfl
@[simp ↓] theorem e_rdI {A : D → Prop} {B : Prop} {z : Int} : rdO (.int z) A B = B := Eq.trans rfl rfl
@[simp ↓] theorem e_rdS {A : D → Prop} {B : Prop} {z : Str} : rdO (.str z) A B = B := Eq.trans rfl rfl
@[simp ↓] theorem e_rdl {A : D → Prop} {B : Prop} : rdO (.list es) A B = B := Eq.trans rfl rfl
@[simp ↓] theorem e_rdt {A : D → Prop} {B : Prop} : rdO (.tuple es) A B = B := Eq.trans rfl rfl
@[simp ↓] theorem e_isRef {k : Nat → Str → Prop} : isRef (.o (.ref n cn)) cns k = (cn ∈ cns ∧ k n cn) := Eq.trans rfl rfl
@[simp ↓] theorem e_fput : fput ⟨sl, st⟩ n ds j d = ⟨sl, st.set n (some (setA ds j d))⟩ := Eq.trans rfl rfl
@[simp ↓] theorem e_fld {we : WE} : wFld cns j we ⟨sl, st⟩ k x = we ⟨sl, st⟩ (fun y r1 => isRef y cns fun n _ => lstAt r1 n fun ds => fldAt ds j fun d => rdO d (fun d' => k (.d d') (fput r1 n ds j d')) (k (.d d) r1)) x := Eq.trans rfl rfl
@[simp ↓] theorem e_slot0 {k : Nat → Str → Prop} : slotRef ⟨some y :: sl, st⟩ 0 cns k = isRef y cns k := Eq.trans rfl rfl
@[simp ↓] theorem e_tnm {k : Env → Prop} : ttAsg (.nm i) d ⟨sl, st⟩ k = k (Env.put ⟨sl, st⟩ i (.d d)) := Eq.trans rfl rfl
@[simp ↓] theorem e_tat {k : Env → Prop} : ttAsg (.at i j cns) d ⟨sl, st⟩ k = slotRef ⟨sl, st⟩ i cns fun n _ => lstAt ⟨sl, st⟩ n fun ds => j ≤ ds.length ∧ k (fput ⟨sl, st⟩ n ds j d) := Eq.trans rfl rfl
@[simp ↓] theorem e_tm0 {r : Env} {k : Env → Prop} : ttMany [] [] r k = k r := Eq.trans rfl rfl
@[simp ↓] theorem e_tm1 {r : Env} {k : Env → Prop} {t : Tt} {ts : List Tt} : ttMany (t :: ts) (d :: ds) r k = ttAsg t d r fun r1 => ttMany ts ds r1 k := Eq.trans rfl rfl
@[simp ↓] theorem e_asgTt {ts : List Tt} {we : WE} : wAsgT ts we ⟨sl, st⟩ p = we ⟨sl, st⟩ (fun y r1 => frz y r1 fun d r2 => match d with
  | .tuple ds => ds.length = ts.length ∧ ttMany ts ds r2 p.nx
  | _ => False) p.ex := Eq.trans rfl rfl
@[simp ↓] theorem e_asg1 {t : Tt} {we : WE} : wAsg1 t we ⟨sl, st⟩ p = we ⟨sl, st⟩ (fun y r1 => frz y r1 fun d r2 => ttAsg t d r2 p.nx) p.ex := Eq.trans rfl rfl
@[simp ↓] theorem e_ownL {wl : WL} : wOwnL i j cns wl ⟨sl, st⟩ p = wl ⟨sl, st⟩ (fun ds r1 => ttAsg (.at i j cns) (ownL ds) r1 p.nx) p.ex := Eq.trans rfl rfl
@[simp ↓] theorem e_ownK : wOwnK i j cns ⟨sl, st⟩ p = ttAsg (.at i j cns) (ownK []) ⟨sl, st⟩ p.nx := Eq.trans rfl rfl
@[simp ↓] theorem e_asL {k : List D → Prop} : asL (ownL es) k = k es := Eq.trans rfl rfl
@[simp ↓] theorem e_asK {k : List (D × D) → Prop} : asK (ownK kvs) k = k kvs := Eq.trans rfl rfl
def sD (o : Option (Option R)) (k : D → Prop) : Prop := match o with
  | some (some (.d d)) => k d
  | _ => False
@[simp ↓] theorem e_sD {k : D → Prop} : sD (some (some (.d d))) k = k d := Eq.trans rfl rfl
@[simp ↓] theorem e_slotD {k : D → Prop} : slotD ⟨sl, st⟩ i k = sD sl[i]? k := Eq.trans rfl rfl
@[simp ↓] theorem e_slotI {k : Int → Prop} : slotI ⟨sl, st⟩ i k = sD sl[i]? fun d => isI (.d d) k := by
  unfold slotI slotD sD
  cases sl[i]? with
  | none => rfl
  | some o => cases o with
    | none => rfl
    | some y => cases y with
      | d d => cases d <;> rfl
      | _ => rfl
@[simp ↓] theorem e_setFI {i1 : Nat} {we : WE} : wSetFI i j cns i1 we ⟨sl, st⟩ p = we ⟨sl, st⟩ (fun y r1 => frz y r1 fun d r2 => slotRef r2 i cns fun n _ => lstAt r2 n fun ds => fldAt ds j fun c => asL c fun cur => slotI r2 i1 fun z => match ixN cur.length z with
  | some m => p.nx (fput r2 n ds j (ownL (cur.set m d)))
  | none => False) p.ex := Eq.trans rfl rfl
@[simp ↓] theorem e_setFK {i1 : Nat} {we : WE} : wSetFK i j cns i1 we ⟨sl, st⟩ p = we ⟨sl, st⟩ (fun y r1 => frz y r1 fun d r2 => slotRef r2 i cns fun n _ => lstAt r2 n fun ds => fldAt ds j fun c => asK c fun cur => slotD r2 i1 fun kd => isKey kd ∧ cur.length < sizeLine ∧ p.nx (fput r2 n ds j (ownK (putD cur kd d)))) p.ex := Eq.trans rfl rfl
@[simp ↓] theorem e_notInF {i1 : Nat} {k : Bool → Env → Prop} : wNotInF i1 i j cns ⟨sl, st⟩ k x = slotD ⟨sl, st⟩ i1 fun kd => slotRef ⟨sl, st⟩ i cns fun n _ => lstAt ⟨sl, st⟩ n fun ds => fldAt ds j fun c => asK c fun cur => isKey kd ∧ k (!(valD cur kd).isSome) ⟨sl, st⟩ := Eq.trans rfl rfl
@[simp ↓] theorem e_isDic {k : List (D × D) → Prop} : isDic (.d (.dict kvs)) k = k kvs := Eq.trans rfl rfl
@[simp ↓] theorem e_isKeyR {k : D → Prop} : isKeyR (.d d) k = (isKey d ∧ k d) := Eq.trans rfl rfl
@[simp ↓] theorem e_isKeyI {z : Int} : isKey (.int z) = True := Eq.trans rfl rfl
@[simp ↓] theorem e_getK {we wk : WE} : wGetK we wk ⟨sl, st⟩ k x = we ⟨sl, st⟩ (fun o r1 => isDic o fun es => wk r1 (fun y r2 => isKeyR y fun kd => k (.d ((valD es kd).getD .none)) r2) x) x := Eq.trans rfl rfl
@[simp ↓] theorem e_augFI {g : G2} {i1 i2 : Nat} : wAugFI g i j cns i1 i2 ⟨sl, st⟩ p = slotRef ⟨sl, st⟩ i cns fun n _ => lstAt ⟨sl, st⟩ n fun ds => fldAt ds j fun c => asL c fun cur => slotI ⟨sl, st⟩ i1 fun z => slotD ⟨sl, st⟩ i2 fun d2 => match ixN cur.length z with
  | some m => match cur[m]? with
    | some d1 => g d1 d2 fun d => p.nx (fput ⟨sl, st⟩ n ds j (ownL (cur.set m d)))
    | none => False
  | none => False := Eq.trans rfl rfl
@[simp ↓] theorem e_enumT {wr : WA} {kl : List D → Env → Prop} : wEnumT wr ⟨sl, st⟩ kl x = wr ⟨sl, st⟩ (fun ys r1 => frzs ys r1 fun ds r2 => match ds with
  | [.tuple a] => kl (pairs (intR 0 a.length) a) r2
  | _ => False) x := Eq.trans rfl rfl
@[simp ↓] theorem e_ownOp {G : FS} {wo wb : WE} : wOwnOp cn G wo wb ⟨sl, st⟩ k x = wo ⟨sl, st⟩ (fun y r1 => isRef y [cn] fun n _ => wb r1 (fun z r2 => isI z fun _ => lstAt r2 n fun _ => G [y, z] r2.st (fun v st' => k v ⟨r2.sl, st'⟩) (fun e st' => x e ⟨r2.sl, st'⟩)) x) x := Eq.trans rfl rfl
@[simp ↓] theorem e_prop1 {G : FS} {wo : WE} : wProp [(cn, G)] wo ⟨sl, st⟩ k x = wo ⟨sl, st⟩ (fun y r1 => isRef y [cn] fun i _ => lstAt r1 i fun _ => G [y] r1.st (fun z st' => k z ⟨r1.sl, st'⟩) (fun _ _ => False)) x := by
  unfold wProp
  congr 1
  funext y r1
  cases y with
  | o b =>
    cases b with
    | ref i c =>
      show (c ∈ [cn] ∧ _) = (c ∈ [cn] ∧ _)
      by_cases h : c = cn
      · subst h
        simp [List.lookup]
      · simp [h]
    | _ => rfl
  | _ => rfl
@[simp ↓] theorem e_nest2 {is1 is2 : List Nat} {we : WE} : wNest2 is1 is2 we ⟨sl, st⟩ p = we ⟨sl, st⟩ (fun y r1 => frz y r1 fun d r2 => match d with
  | .tuple [a, b] => asgT (.tp is1) a r2 fun r3 => asgT (.tp is2) b r3 p.nx
  | _ => False) p.ex := Eq.trans rfl rfl
@[simp ↓] theorem e_make {G : FS} {wr : WA} : wMake cn n G wr ⟨sl, st⟩ k x = wr ⟨sl, st⟩ (fun ys r1 => ys.length + 1 = n ∧ G (.o (.ref r1.st.length cn) :: ys) (r1.st ++ [some []]) (fun y st' => y = .d .none ∧ k (.o (.ref r1.st.length cn)) ⟨r1.sl, st'⟩) (fun e st' => x e ⟨r1.sl, st'⟩)) x := Eq.trans rfl rfl
@[simp ↓] theorem e_meth1 {G : FS} {wo : WE} {wr : WA} : wMeth [(cn, G)] n wo wr ⟨sl, st⟩ k x = wo ⟨sl, st⟩ (fun y r1 => isRef y [cn] fun i _ => lstAt r1 i fun _ => wr r1 (fun ys r2 => ys.length + 1 = n ∧ G (y :: ys) r2.st (fun z st' => k z ⟨r2.sl, st'⟩) (fun e st' => x e ⟨r2.sl, st'⟩)) x) x := by
  unfold wMeth
  congr 1
  funext y r1
  cases y with
  | o b =>
    cases b with
    | ref i c =>
      show (c ∈ [cn] ∧ _) = (c ∈ [cn] ∧ _)
      by_cases h : c = cn
      · subst h
        simp [List.lookup]
      · simp [h]
    | _ => rfl
  | _ => rfl

@[simp ↓] theorem e_fldAt0 {x0 : D} {t : List D} {k : D → Prop} : fldAt (x0 :: t) 0 k = k x0 := Eq.trans rfl rfl
@[simp ↓] theorem e_setA0 {x0 : D} {t : List D} : setA (x0 :: t) 0 d = d :: t := Eq.trans rfl rfl
@[simp ↓] theorem e_setN0 : setA [] 0 d = [d] := Eq.trans rfl rfl
@[simp ↓] theorem e_fldAt1 {x0 x1 : D} {t : List D} {k : D → Prop} : fldAt (x0 :: x1 :: t) 1 k = k x1 := Eq.trans rfl rfl
@[simp ↓] theorem e_setA1 {x0 x1 : D} {t : List D} : setA (x0 :: x1 :: t) 1 d = x0 :: d :: t := Eq.trans rfl rfl
@[simp ↓] theorem e_setN1 {x0 : D} : setA [x0] 1 d = [x0, d] := Eq.trans rfl rfl
@[simp ↓] theorem e_fldAt2 {x0 x1 x2 : D} {t : List D} {k : D → Prop} : fldAt (x0 :: x1 :: x2 :: t) 2 k = k x2 := Eq.trans rfl rfl
@[simp ↓] theorem e_setA2 {x0 x1 x2 : D} {t : List D} : setA (x0 :: x1 :: x2 :: t) 2 d = x0 :: x1 :: d :: t := Eq.trans rfl rfl
@[simp ↓] theorem e_setN2 {x0 x1 : D} : setA [x0, x1] 2 d = [x0, x1, d] := Eq.trans rfl rfl
@[simp ↓] theorem e_fldAt3 {x0 x1 x2 x3 : D} {t : List D} {k : D → Prop} : fldAt (x0 :: x1 :: x2 :: x3 :: t) 3 k = k x3 := Eq.trans rfl rfl
@[simp ↓] theorem e_setA3 {x0 x1 x2 x3 : D} {t : List D} : setA (x0 :: x1 :: x2 :: x3 :: t) 3 d = x0 :: x1 :: x2 :: d :: t := Eq.trans rfl rfl
@[simp ↓] theorem e_setN3 {x0 x1 x2 : D} : setA [x0, x1, x2] 3 d = [x0, x1, x2, d] := Eq.trans rfl rfl
@[simp ↓] theorem e_fldAt4 {x0 x1 x2 x3 x4 : D} {t : List D} {k : D → Prop} : fldAt (x0 :: x1 :: x2 :: x3 :: x4 :: t) 4 k = k x4 := Eq.trans rfl rfl
@[simp ↓] theorem e_setA4 {x0 x1 x2 x3 x4 : D} {t : List D} : setA (x0 :: x1 :: x2 :: x3 :: x4 :: t) 4 d = x0 :: x1 :: x2 :: x3 :: d :: t := Eq.trans rfl rfl
@[simp ↓] theorem e_setN4 {x0 x1 x2 x3 : D} : setA [x0, x1, x2, x3] 4 d = [x0, x1, x2, x3, d] := Eq.trans rfl rfl
@[simp ↓] theorem e_fldAt5 {x0 x1 x2 x3 x4 x5 : D} {t : List D} {k : D → Prop} : fldAt (x0 :: x1 :: x2 :: x3 :: x4 :: x5 :: t) 5 k = k x5 := Eq.trans rfl rfl
@[simp ↓] theorem e_setA5 {x0 x1 x2 x3 x4 x5 : D} {t : List D} : setA (x0 :: x1 :: x2 :: x3 :: x4 :: x5 :: t) 5 d = x0 :: x1 :: x2 :: x3 :: x4 :: d :: t := Eq.trans rfl rfl
@[simp ↓] theorem e_setN5 {x0 x1 x2 x3 x4 : D} : setA [x0, x1, x2, x3, x4] 5 d = [x0, x1, x2, x3, x4, d] := Eq.trans rfl rfl
@[simp ↓] theorem e_fldAt6 {x0 x1 x2 x3 x4 x5 x6 : D} {t : List D} {k : D → Prop} : fldAt (x0 :: x1 :: x2 :: x3 :: x4 :: x5 :: x6 :: t) 6 k = k x6 := Eq.trans rfl rfl
@[simp ↓] theorem e_setA6 {x0 x1 x2 x3 x4 x5 x6 : D} {t : List D} : setA (x0 :: x1 :: x2 :: x3 :: x4 :: x5 :: x6 :: t) 6 d = x0 :: x1 :: x2 :: x3 :: x4 :: x5 :: d :: t := Eq.trans rfl rfl
@[simp ↓] theorem e_setN6 {x0 x1 x2 x3 x4 x5 : D} : setA [x0, x1, x2, x3, x4, x5] 6 d = [x0, x1, x2, x3, x4, x5, d] := Eq.trans rfl rfl
@[simp ↓] theorem e_fldAt7 {x0 x1 x2 x3 x4 x5 x6 x7 : D} {t : List D} {k : D → Prop} : fldAt (x0 :: x1 :: x2 :: x3 :: x4 :: x5 :: x6 :: x7 :: t) 7 k = k x7 := Eq.trans rfl rfl
@[simp ↓] theorem e_setA7 {x0 x1 x2 x3 x4 x5 x6 x7 : D} {t : List D} : setA (x0 :: x1 :: x2 :: x3 :: x4 :: x5 :: x6 :: x7 :: t) 7 d = x0 :: x1 :: x2 :: x3 :: x4 :: x5 :: x6 :: d :: t := Eq.trans rfl rfl
@[simp ↓] theorem e_setN7 {x0 x1 x2 x3 x4 x5 x6 : D} : setA [x0, x1, x2, x3, x4, x5, x6] 7 d = [x0, x1, x2, x3, x4, x5, x6, d] := Eq.trans rfl rfl
end
end Dl

/-! plain laws, part 30a: the words between marks, the gaps -/
namespace Dl
open PySem
open PySem.Spec
open PyProof.Rows
open L2
def marks : List Itm → List Int
  | [] => []
  | .m z :: t => z :: marks t
  | .c _ :: t => marks t
def blk : List Itm → List (List Nat)
  | [] => [[]]
  | .m _ :: t => [] :: blk t
  | .c n :: t => match blk t with
    | [] => [[n]]
    | w :: ws => (n :: w) :: ws
def intsOf (l : List Int) : List D := l.map PyData.int
end Dl

/-! plain laws, part 30c: the bounds of a task -/
namespace Dl
open PySem
open PySem.Spec
open PyProof.Rows
open L2
section
variable {st : Sto} {k : KS} {x : XS0}
/-- the places to which the cursor must come -/
def needs (gl gr : List Int) (tl tr : List (List Nat)) (i : Nat) : Bool := decide (0 < gl.getD i 0 + gr.getD i 0) || !(tl.getD i [] ++ tr.getD i []).isEmpty
end
end Dl

/-! plain laws, part 30b: a task is made -/
namespace Dl
open PySem
open PySem.Spec
open PyProof.Rows
open L2
section
variable {st : Sto} {k : KS} {x : XS0}
end
end Dl

/-! plain laws, part 30d: the number of a task -/
namespace Dl
open PySem
open PySem.Spec
open PyProof.Rows
open L2
def lenS (l : List (List Nat)) : Int := (l.map fun w => (w.length : Int)).sum
section
variable {st : Sto} {k : KS} {x : XS0}
end
end Dl

/-! plain laws, part 30e: the law's formula is the number -/
namespace Dl
open PySem
open PySem.Spec
open PyProof.Rows
open L2
/-- all is in order -/
structure Eff (L M : Int) (its : List Itm) (p : Nat) : Prop where
  l0 : 0 ≤ L
  m0 : 0 ≤ M
  lw : ∀ c, .c c ∈ its → c ∈ low
  asc : ((-L - 1) :: (marks its ++ [M])).Pairwise (· < ·)
  hp : p ≤ its.length
end Dl

/-! plain laws, part 30f: the law's formula is read; effects in order -/
namespace Dl
open PySem
open PySem.Spec
open PyProof.Rows
open L2
theorem itemsB_its : ∀ (its : List Itm) (hi lo : Int), itemsB hi lo (its.map itD) = true ↔ ((∀ c, .c c ∈ its → c ∈ low) ∧ (∀ z ∈ marks its, lo ≤ z ∧ z < hi) ∧ (marks its).Pairwise (· < ·))
  | [], hi, lo => by simp [itemsB, marks]
  | .m z :: t, hi, lo => by
    show (if isLetD (.int z) = true then itemsB hi lo (t.map itD) else (decide (lo ≤ z ∧ z ≤ hi - 1) && itemsB hi (z + 1) (t.map itD))) = true ↔ _
    rw [if_neg (by simp [isLetD]), Bool.and_eq_true, decide_eq_true_iff, itemsB_its t hi (z + 1)]
    show _ ↔ _ ∧ (∀ y ∈ z :: marks t, _) ∧ (z :: marks t).Pairwise _
    constructor
    · rintro ⟨⟨h1, h2⟩, h3, h4, h5⟩
      refine ⟨fun c hc => ?_, fun y hy => ?_, List.pairwise_cons.mpr ⟨fun y hy => ?_, h5⟩⟩
      · simp at hc
        exact h3 c hc
      · rcases List.mem_cons.mp hy with rfl | hy
        · omega
        · have := h4 y hy
          omega
      · have := h4 y hy
        omega
    · rintro ⟨h3, h4, h5⟩
      obtain ⟨h6, h7⟩ := List.pairwise_cons.mp h5
      have := h4 z (by simp)
      refine ⟨by omega, fun c hc => h3 c (by simp [hc]), fun y hy => ?_, h7⟩
      have h8 := h6 y hy
      have h9 := h4 y (by simp [hy])
      omega
  | .c n :: t, hi, lo => by
    have e : isLetD (itD (.c n)) = decide (n ∈ low) := by
      show ((1 == 1) && [n].all fun c => decide (c ∈ low)) = _
      simp
    show (if isLetD (itD (.c n)) = true then itemsB hi lo (t.map itD) else False) = true ↔ _
    rw [e]
    by_cases h : n ∈ low
    · rw [if_pos (decide_eq_true h), itemsB_its t hi lo]
      show _ ↔ _ ∧ (∀ y ∈ marks t, _) ∧ (marks t).Pairwise _
      constructor
      · rintro ⟨h3, h4, h5⟩
        refine ⟨fun c hc => ?_, h4, h5⟩
        simp at hc
        rcases hc with rfl | hc
        · exact h
        · exact h3 c hc
      · rintro ⟨h3, h4, h5⟩
        exact ⟨fun c hc => h3 c (by simp [hc]), h4, h5⟩
    · rw [if_neg (by simp [h])]
      constructor
      · intro q
        simp at q
      · rintro ⟨h3, _⟩
        exact absurd (h3 n (by simp)) h
theorem eff_iff {L M : Int} {its : List Itm} {p : Int} : effB (.tuple [.int L, .int M, .tuple (its.map itD), .int p]) = true ↔ ∃ q : Nat, p = q ∧ Eff L M its q := by
  show (decide (0 ≤ L) && (decide (0 ≤ M) && (itemsB M (0 - L) (its.map itD) && decide (0 ≤ p ∧ p ≤ (its.map itD).length)))) = true ↔ _
  rw [Bool.and_eq_true, Bool.and_eq_true, Bool.and_eq_true, decide_eq_true_iff, decide_eq_true_iff, decide_eq_true_iff, itemsB_its, List.length_map]
  constructor
  · rintro ⟨h1, h2, ⟨h3, h4, h5⟩, h6, h7⟩
    refine ⟨p.toNat, by omega, h1, h2, h3, ?_, by omega⟩
    refine List.pairwise_cons.mpr ⟨fun z hz => ?_, List.pairwise_append.mpr ⟨h5, by simp, fun a ha b hb => ?_⟩⟩
    · rcases List.mem_append.mp hz with hz | hz
      · have := h4 z hz
        omega
      · rw [List.mem_singleton.mp hz]
        omega
    · rw [List.mem_singleton.mp hb]
      exact (h4 a ha).2
  · rintro ⟨q, rfl, e⟩
    obtain ⟨h1, h2⟩ := List.pairwise_cons.mp e.asc
    obtain ⟨h3, _, h4⟩ := List.pairwise_append.mp h2
    refine ⟨e.l0, e.m0, ⟨e.lw, fun z hz => ?_, h3⟩, by omega, by have := e.hp; omega⟩
    have := h1 z (by simp [hz])
    have := h4 z hz M (by simp)
    omega
section
variable {st : Sto} {k : KS} {x : XS0}
end
end Dl

/-! plain laws, part 30g: what a change of the effect does to the number -/
namespace Dl
open PySem
open PySem.Spec
open PyProof.Rows
open L2
/-- the gaps, one by one -/
def gs : Int → List Int → List Int
  | _, [] => []
  | _, [_] => []
  | c, a :: b :: t => (if 1 < b - a then [c] else []) ++ gs (c + 1) (b :: t)
end Dl

/-! plain laws, part 30h: k30 -/
namespace Dl
open PySem
open PySem.Spec
open PyProof.Rows
open L2
section
variable {st st0 : Sto} {k : KS} {x : XS0} {n m : Nat}
end
end Dl

/-! plain laws, part 28e: k28 -/
namespace Dl
open PySem
open PySem.Spec
open PyProof.Rows
open L2
def markO : Itm → Option Int
  | .m i => some i
  | .c _ => none
structure Qrow (a b : Nat) (row : List Itm) : Prop where
  asc : (row.filterMap markO).Pairwise (· < ·)
  bd : ∀ i ∈ row.filterMap markO, -(a : Int) ≤ i ∧ i < b
  lw : ∀ c, .c c ∈ row → c ∈ low
theorem Qrow.sub {a b : Nat} {row row' : List Itm} (h : Qrow a b row) (s : row'.Sublist row) : Qrow a b row' :=
  ⟨h.asc.sublist (s.filterMap markO), fun i hi => h.bd i ((s.filterMap markO).subset hi), fun c hc => h.lw c (s.subset hc)⟩
theorem Qrow.ins {a b : Nat} {u v : List Itm} {c : Nat} (h : Qrow a b (u ++ v)) (hc : c ∈ low) : Qrow a b (u ++ [Itm.c c] ++ v) := by
  have e0 : [Itm.c c].filterMap markO = [] := rfl
  have e : (u ++ [Itm.c c] ++ v).filterMap markO = (u ++ v).filterMap markO := by rw [List.filterMap_append, List.filterMap_append, List.filterMap_append, e0, List.append_nil]
  refine ⟨by rw [e]; exact h.asc, by rw [e]; exact h.bd, fun d hd => ?_⟩
  simp at hd
  rcases hd with hd | hd | hd
  · exact h.lw d (by simp [hd])
  · rw [hd]
    exact hc
  · exact h.lw d (by simp [hd])
theorem Qrow.zstep {a b : Nat} {l r : List Itm} {k : Nat} (h : Qrow a b (l ++ r)) (hk : isKeyB k = true) : Qrow a b ((zstep (l, r) k).1 ++ (zstep (l, r) k).2) := by
  unfold Dl.zstep
  by_cases h60 : k = 60
  · rw [if_pos h60]
    dsimp only
    rw [← List.append_assoc, last_split']
    exact h
  · rw [if_neg h60]
    by_cases h62 : k = 62
    · rw [if_pos h62]
      dsimp only
      rw [List.append_assoc, List.take_append_drop]
      exact h
    · rw [if_neg h62]
      by_cases h45 : k = 45
      · rw [if_pos h45]
        exact h.sub ((List.dropLast_sublist l).append (List.Sublist.refl r))
      · rw [if_neg h45]
        by_cases h35 : k = 35
        · rw [if_pos h35]
          exact h.sub ((List.Sublist.refl l).append (List.drop_sublist 1 r))
        · rw [if_neg h35]
          refine h.ins ?_
          simp [isKeyB, h60, h62, h45, h35] at hk
          exact hk
theorem Qrow.pad {f : Far} (h : Qrow f.a f.b (f.l ++ f.r)) (k : Nat) : Qrow (padF f k).a (padF f k).b ((padF f k).l ++ (padF f k).r) := by
  unfold padF
  dsimp only
  by_cases hA : (k = 45 ∨ k = 60) ∧ f.l = []
  · have hB : ¬ ((k = 35 ∨ k = 62) ∧ f.r = []) := by
      rintro ⟨h, _⟩
      omega
    rw [if_pos hA, if_neg hB]
    dsimp only
    rw [hA.2, List.nil_append] at h
    rw [List.singleton_append]
    have e : (Itm.m (-((f.a + 1 : Nat) : Int)) :: f.r).filterMap markO = -((f.a + 1 : Nat) : Int) :: f.r.filterMap markO := by simp [markO]
    refine ⟨?_, fun i hi => ?_, fun c hc => ?_⟩
    · rw [e]
      refine List.pairwise_cons.mpr ⟨fun j hj => ?_, h.asc⟩
      have := h.bd j hj
      omega
    · rw [e] at hi
      rcases List.mem_cons.mp hi with rfl | hi
      · omega
      · have := h.bd i hi
        omega
    · rcases List.mem_cons.mp hc with hc | hc
      · cases hc
      · exact h.lw c hc
  · rw [if_neg hA]
    by_cases hB : (k = 35 ∨ k = 62) ∧ f.r = []
    · rw [if_pos hB]
      dsimp only
      rw [hB.2, List.append_nil] at h
      have e : (f.l ++ [Itm.m (f.b : Int)]).filterMap markO = f.l.filterMap markO ++ [(f.b : Int)] := by simp [markO]
      refine ⟨?_, fun i hi => ?_, fun c hc => ?_⟩
      · rw [e, List.pairwise_append]
        refine ⟨h.asc, by simp, fun i hi j hj => ?_⟩
        rw [List.mem_singleton.mp hj]
        exact (h.bd i hi).2
      · rw [e] at hi
        rcases List.mem_append.mp hi with hi | hi
        · have := h.bd i hi
          omega
        · rw [List.mem_singleton.mp hi]
          omega
      · rcases List.mem_append.mp hc with hc | hc
        · exact h.lw c hc
        · simp at hc
    · rw [if_neg hB]
      exact h
theorem q_run : ∀ (ks : List Nat) (f : Far), (∀ c ∈ ks, isKeyB c = true) → Qrow f.a f.b (f.l ++ f.r) → Qrow (ks.foldl stepFar f).a (ks.foldl stepFar f).b ((ks.foldl stepFar f).l ++ (ks.foldl stepFar f).r)
  | [], f, _, h => h
  | k :: l, f, hk, h => q_run l (stepFar f k) (fun c hc => hk c (by simp [hc])) ((h.pad k).zstep (hk k (by simp)))
theorem q_items {a b : Nat} {row : List Itm} (h : Qrow a b row) : itemsB b (0 - a) (row.map itD) = true := by
  rw [items_iff]
  have hlet : ∀ c ∈ low, isLetD (.str (S [c])) = true := fun c hc => by
    show ((1 == 1) && [c].all fun c => decide (c ∈ low)) = true
    simp [hc]
  refine ⟨?_, row.filterMap markO, ?_, fun i hi => ?_, h.asc⟩
  · rw [List.filter_eq_nil_iff]
    intro d hd
    obtain ⟨y, hy, rfl⟩ := List.mem_map.mp hd
    cases y with
    | m i => simp [itD, badStr]
    | c n => simp [itD, badStr, hlet n (h.lw n hy)]
  · have hall := h.lw
    clear h
    induction row with
    | nil => rfl
    | cons y row ih =>
      have ih := ih fun c hc => hall c (by simp [hc])
      cases y with
      | m i =>
        rw [List.map_cons, List.filter_cons_of_pos (by simp [itD, notStr]), ih]
        simp [markO, itD]
      | c n =>
        rw [List.map_cons, List.filter_cons_of_neg (by simp [itD, notStr]), ih]
        rfl
  · have := h.bd i hi
    omega
section
variable {st st0 : Sto} {k : KS} {x : XS0} {n m : Nat}
theorem r_far_effect {ks : List Nat} (hz : ks.length ≤ 1000) (hk : ∀ c ∈ ks, isKeyB c = true) (h : k (.d (effD (runF' ks))) st) : F_far_effect [.d (.str (S ks))] st k x := by
  simp [F_far_effect, e_run, w_far_effect]
  refine r_check_keys (by omega) ?_
  rw [if_pos (List.all_eq_true.mpr hk)]
  try simp
  refine r_effect_of hz (fun c hc => key_small (hk c hc)) ?_
  simpa using h
end
end Dl

/-! plain laws, part 31a: no list has fewer keys than the number -/
namespace Dl
open PySem
open PySem.Spec
open PyProof.Rows
open L2
end Dl

/-! plain laws, part 9b: pressed; the law's rows -/
namespace Dl
open PySem
open PySem.Spec
open PyProof.Rows
open L2
section
variable {st st0 : Sto} {k : KS} {x : XS0} {n m : Nat}
theorem g_eqNilT {xs : List D} {kb : Bool → Prop} {h w : Nat} (f : Fit h w (.tuple xs)) (hh : h ≤ 64) (q : kb xs.isEmpty) : gEq (.tuple xs) (.tuple []) kb := by
  refine ⟨f.shp hh, ?_, ?_⟩
  · show (PyData.canLay0 (.tuple []) && decide ((PyData.tuple []).depth ≤ 64)) = true
    simp [PyData.canLay0, PyData.canLayAll0, PyData.depth, PyData.depthAll]
  · have e : eqd (.tuple xs) (.tuple []) = xs.isEmpty := by
      show PyData.eqv _ _ = _
      cases xs <;> simp [PyData.eqv, PyData.eqvAll]
    rw [e]
    exact q
theorem fit_natsT {l : List Nat} (hn : l.length ≤ 1000) (hb : ∀ i ∈ l, i ≤ 1000000) : Fit 1 (1000 * 201) (.tuple (natsD l)) := fit_tup (h := 0) (w := 200) (n := 1000) (fun d hd => by
  obtain ⟨i, hi, rfl⟩ := List.mem_map.mp hd
  have := hb i hi
  exact fit_int (by omega)) (by simpa [natsD] using hn)
theorem r_is_text {t : List Nat} (hz : t.length ≤ 1000000) (hl : ∀ c ∈ t, c ∈ low ++ upp) (h : k (.d (.bool true)) st) : F_is_text [.d (.str (S t))] st k x := by
  simp [F_is_text, e_run, w_is_text, signs_S]
  refine lc1y (α := Nat) sign (fun c => .bool true) rfl (fun c hc K X hK => ?_) (sz hz) ?_
  · simp [sign_S]
    by_cases h1 : c ∈ low
    · simpa [h1, sign_S] using hK
    · have h2 : c ∈ upp := (List.mem_append.mp (hl c hc)).resolve_left h1
      simpa [h1, h2, sign_S] using hK
  · try simp
    rw [g_all (boolsD_map (fun _ => true) t), all_true fun _ _ => rfl]
    simpa using h
theorem r_check_text {t : List Nat} (hz : t.length ≤ 1000000) (hl : ∀ c ∈ t, c ∈ low ++ upp) (h : k (.d .none) st) : F_check_text [.d (.str (S t))] st k x := by
  simp [F_check_text, e_run, w_check_text]
  try simp
  refine r_is_text hz hl ?_
  simpa using h
theorem asc_zip : ∀ {cs : List Nat} {a b : Nat}, Asc a b cs → ∀ p ∈ cs.zip (cs.drop 1), p.1 < p.2
  | [], a, b, _, p, hp => by simp at hp
  | [c], a, b, _, p, hp => by simp at hp
  | c :: d :: cs, a, b, h, p, hp => by
    rw [List.drop_succ_cons, List.drop_zero, List.zip_cons_cons] at hp
    rcases List.mem_cons.mp hp with rfl | hp
    · have := h.2.2.1
      dsimp only
      omega
    · exact asc_zip (cs := d :: cs) h.2.2 p (by simpa using hp)
theorem r_is_cursors {t cs : List Nat} (hz : t.length ≤ 900000) (hc : cs.length ≤ 900) (hne : cs ≠ []) (ha : Asc 0 t.length cs) (h : k (.d (.bool true)) st) : F_is_cursors [.d (.str (S t)), .d (.tuple (natsD cs))] st k x := by
  have hb := ha.le
  have hf := fit_natsT (l := cs) (by omega) fun i hi => by
    have := (hb i hi).2
    omega
  have hi : (natsD cs).isEmpty = false := by
    cases cs with
    | nil => exact absurd rfl hne
    | cons a b => rfl
  simp [F_is_cursors, e_run, w_is_cursors]
  refine g_eqNilT hf (by decide) ?_
  rw [hi]
  simp
  refine lc1y (α := Nat) (l := cs) (fun (i : Nat) => .int i) (fun _ => .bool true) rfl (fun i hi K X hK => ?_) (by rw [sizeLine_eq]; omega) ?_
  · simp [g_lenS, sizeLine_eq]
    refine ⟨by omega, r_is_integer2 ?_⟩
    have := hb i hi
    have e : (0 : Int) ≤ (i : Int) ∧ (i : Int) ≤ t.length := by omega
    simpa [e.1, e.2] using hK
  · simp
    rw [g_all (boolsD_map (fun _ => true) cs), all_true fun _ _ => rfl]
    simp [cut_fr1]
    have ez : pairs (natsD cs) (natsD cs).tail = (cs.zip (cs.drop 1)).map fun p => PyData.tuple [.int p.1, .int p.2] := by
      have e1 : (natsD cs).tail = (cs.drop 1).map fun (i : Nat) => PyData.int i := by simp [natsD]
      rw [e1]
      exact pairs_mapP _ _ cs (cs.drop 1)
    rw [ez]
    refine lcP (α := Nat × Nat) (l := cs.zip (cs.drop 1)) (fun p => .int p.1) (fun p => .int p.2) (fun _ => true) (fun p => .bool true) rfl (by decide) (fun p _ K X hK => by simpa using hK) (fun p hp _ K X hK => ?_) (by rw [sizeLine_eq, List.length_zip]; simp; omega) ?_ (by
      intro v hv _
      simp at hv
      rcases hv with rfl | rfl <;> rfl)
    · have := asc_zip ha p hp
      have e : ((p.1 : Nat) : Int) < ((p.2 : Nat) : Int) := by omega
      simp
      have e2 : decide (p.1 < p.2) = true := decide_eq_true this
      first
        | (rw [e2]; simpa using hK)
        | (simpa [this] using hK)
    · rw [List.filter_eq_self.mpr (fun _ _ => rfl)]
      simp
      rw [g_all (boolsD_map (fun _ => true) (cs.zip cs.tail)), all_true fun _ _ => rfl]
      simpa using h
theorem r_check_cursors {t cs : List Nat} (hz : t.length ≤ 900000) (hc : cs.length ≤ 900) (hne : cs ≠ []) (ha : Asc 0 t.length cs) (h : k (.d .none) st) : F_check_cursors [.d (.str (S t)), .d (.tuple (natsD cs))] st k x := by
  simp [F_check_cursors, e_run, w_check_cursors]
  try simp
  refine r_is_cursors hz hc hne ha ?_
  simpa using h
/-- bounds of a key -/
theorem flat_sub (f : List Nat → List Nat) (hf : ∀ u, (f u).Sublist u) : ∀ m : List (List Nat), ((m.map f).flatten).Sublist m.flatten
  | [] => by simp
  | u :: m => by
    rw [List.map_cons, List.flatten_cons, List.flatten_cons]
    exact (hf u).append (flat_sub f hf m)
theorem filt_flat (m : List (List Nat)) : (m.filter neL).flatten = m.flatten := by
  induction m with
  | nil => rfl
  | cons u m ih =>
    by_cases hu : u = []
    · subst hu
      rw [List.filter_cons_of_neg (by simp [neL]), ih]
      rfl
    · rw [List.filter_cons_of_pos (neL_iff.mpr hu), List.flatten_cons, ih, List.flatten_cons]
theorem revS_flatten (L : List (List Nat)) : (revS L).flatten = L.flatten.reverse := by
  induction L with
  | nil => rfl
  | cons s r ih =>
    have e : revS (s :: r) = revS r ++ [s.reverse] := by simp [revS]
    rw [e, List.flatten_append, ih, List.flatten_cons (l := s), List.reverse_append]
    simp
theorem revS_len (L : List (List Nat)) : (revS L).length = L.length := by simp [revS]
theorem step_bd {ss : List (List Nat)} (h : SOk ss) (c : Nat) : (stepS ss c).length ≤ ss.length ∧ (stepS ss c).flatten.length ≤ ss.flatten.length + ss.length ∧ ∀ d ∈ (stepS ss c).flatten, d ∈ ss.flatten ∨ (d = c ∧ c ≠ 45 ∧ c ≠ 60 ∧ c ≠ 35 ∧ c ≠ 62) := by
  unfold stepS
  by_cases h45 : c = 45
  · rw [if_pos h45]
    obtain ⟨s, m, t, rfl, hm⟩ := h
    rw [bsS_form]
    have hs : (s.dropLast :: ((m.map List.dropLast).filter neL ++ [t])).flatten.Sublist (s :: (m ++ [t])).flatten := by
      rw [List.flatten_cons, List.flatten_cons, List.flatten_append, List.flatten_append, filt_flat]
      exact (List.dropLast_sublist s).append ((flat_sub _ List.dropLast_sublist m).append (List.Sublist.refl _))
    refine ⟨?_, by have := hs.length_le; omega, fun d hd => .inl (hs.subset hd)⟩
    have := List.length_filter_le neL (m.map List.dropLast)
    simp at this ⊢
    exact this
  · rw [if_neg h45]
    by_cases h60 : c = 60
    · rw [if_pos h60]
      obtain ⟨_, h2, h3⟩ := h.mv
      rw [h2]
      exact ⟨h3, by omega, fun d hd => .inl hd⟩
    · rw [if_neg h60]
      by_cases h35 : c = 35
      · rw [if_pos h35]
        obtain ⟨s, m, t, rfl, hm⟩ := h
        rw [del_form]
        have hs : (s :: ((m.map (List.drop 1)).filter neL ++ [t.drop 1])).flatten.Sublist (s :: (m ++ [t])).flatten := by
          rw [List.flatten_cons, List.flatten_cons, List.flatten_append, List.flatten_append, filt_flat]
          refine (List.Sublist.refl s).append ((flat_sub _ (fun u => List.drop_sublist 1 u) m).append ?_)
          simp only [List.flatten_cons, List.flatten_nil, List.append_nil]
          exact List.drop_sublist 1 t
        refine ⟨?_, by have := hs.length_le; omega, fun d hd => .inl (hs.subset hd)⟩
        have := List.length_filter_le neL (m.map (List.drop 1))
        simp at this ⊢
        exact this
      · rw [if_neg h35]
        by_cases h62 : c = 62
        · rw [if_pos h62]
          obtain ⟨_, h2, h3⟩ := h.rev.mv
          rw [revS_flatten, h2, revS_flatten, List.reverse_reverse, revS_len]
          rw [revS_len] at h3
          exact ⟨h3, by omega, fun d hd => .inl hd⟩
        · rw [if_neg h62]
          obtain ⟨s, m, t, rfl, hm⟩ := h
          have e : typeS c (s :: m ++ [t]) = _ := typeS_form c (s :: m) t
          have e' : typeS c (s :: (m ++ [t])) = (s :: m).map (· ++ [c]) ++ [t] := e
          rw [e']
          have hf := flat_le (· ++ [c]) (fun u => by simp) (s :: m)
          refine ⟨by simp, ?_, fun d hd => ?_⟩
          · simp only [List.flatten_append, List.length_append, List.flatten_cons, List.flatten_nil, List.length_nil, List.length_cons] at hf ⊢
            omega
          · rw [List.flatten_append] at hd
            rcases List.mem_append.mp hd with hd | hd
            · obtain ⟨u, hu, hdu⟩ := List.mem_flatten.mp hd
              obtain ⟨v, hv, rfl⟩ := List.mem_map.mp hu
              rcases List.mem_append.mp hdu with hdu | hdu
              · refine .inl (List.mem_flatten.mpr ⟨v, ?_, hdu⟩)
                rcases List.mem_cons.mp hv with rfl | hv
                · simp
                · simp [hv]
              · exact .inr ⟨List.mem_singleton.mp hdu, h45, h60, h35, h62⟩
            · exact .inl (by simp at hd ⊢; exact .inr (.inr hd))
/-- a state within bounds: a letters, b stretches -/
structure StB (a b : Nat) (ss : List (List Nat)) : Prop where
  ok : SOk ss
  lt : ∀ c ∈ ss.flatten, c ∈ low ++ upp
  fl : ss.flatten.length ≤ a
  nb : ss.length ≤ b
theorem StB.step {a b c : Nat} {ss : List (List Nat)} (h : StB a b ss) (hk : isKeyB c = true) : StB (a + b) b (stepS ss c) := by
  obtain ⟨h1, h2, h3⟩ := step_bd h.ok c
  have hf := h.fl
  have hn := h.nb
  refine ⟨step_sok h.ok c, fun d hd => ?_, by omega, by omega⟩
  rcases h3 d hd with hd | ⟨rfl, g1, g2, g3, g4⟩
  · exact h.lt d hd
  · simp [isKeyB, g1, g2, g3, g4] at hk
    exact List.mem_append_left _ hk
theorem StB.mono {a a' b : Nat} {ss : List (List Nat)} (h : StB a b ss) (ha : a ≤ a') : StB a' b ss := ⟨h.ok, h.lt, Nat.le_trans h.fl ha, h.nb⟩
def pressS (ss : List (List Nat)) (row : List Nat) : List (List Nat) := row.foldl stepS ss
theorem StB.press {b : Nat} : ∀ {row : List Nat} {a : Nat} {ss : List (List Nat)}, StB a b ss → (∀ c ∈ row, isKeyB c = true) → StB (a + row.length * b) b (pressS ss row)
  | [], a, ss, h, _ => by simpa [pressS] using h
  | c :: row, a, ss, h, hk => by
    have ih := StB.press (row := row) (h.step (hk c (by simp))) fun d hd => hk d (List.mem_cons_of_mem _ hd)
    have e : a + b + row.length * b = a + (c :: row).length * b := by
      rw [List.length_cons, Nat.add_mul, Nat.one_mul]
      omega
    rw [e] at ih
    exact ih
theorem r_pressed {ss : List (List Nat)} {row : List Nat} {a b : Nat} (h : StB a b ss) (hk : ∀ c ∈ row, isKeyB c = true) (hr : row.length ≤ 900) (hb : b ≤ 900) (ha : a + row.length * b ≤ 900000) (hK : k (.d (stD (pressS ss row))) st) :
    F_pressed [.d (.str (S ss.flatten)), .d (.tuple (natsD (sums 0 ss))), .d (.str (S row))] st k x := by
  have hfl := h.fl
  have hnb := h.nb
  have hsl := sums_len ss 0
  have h4 : 2 ≤ sizeLine := sz (by decide)
  have hA := h.ok.asc
  have hne := h.ok.ne
  have hlt := h.lt
  have e0 : stD ss = .tuple [.str (S ss.flatten), .tuple (natsD (sums 0 ss))] := rfl
  generalize hT : ss.flatten = T at *
  generalize hC : sums 0 ss = C at *
  simp [F_pressed, e_run, w_pressed]
  refine r_check_text (by omega) hlt ?_
  try simp
  refine r_check_cursors (by omega) (by omega) hne hA ?_
  try simp
  refine r_check_keys (by omega) ?_
  rw [if_pos (List.all_eq_true.mpr hk)]
  simp [h4, signs_S]
  rw [← e0]
  refine loopF_fold (α := Nat) (σ := List (List Nat)) sign stepS (fun l s => (∀ c ∈ l, isKeyB c = true) ∧ ∃ a, StB a b s ∧ a + l.length * b ≤ 900000)
    (fun s r => ∃ y4 : Option D, r = ⟨[some (.d (.str (S T))), some (.d (.tuple (natsD C))), some (.d (.str (S row))), some (.d (stD s)), y4.map R.d], st⟩) ?_ ?_ row ss _ ⟨hk, a, h, ha⟩ ⟨none, rfl⟩ ?_
  · rintro c l s r K ⟨g1, a, g2, g3⟩ ⟨y4, rfl⟩ hK
    have q1 := g2.fl
    have q2 := g2.nb
    rw [List.length_cons, Nat.add_mul, Nat.one_mul] at g3
    simp [stD, sign_S]
    refine r_step_key g2.ok (by omega) (by omega) ?_
    exact hK _ ⟨some (.str (S [c])), rfl⟩
  · rintro c l s ⟨g1, a, g2, g3⟩
    rw [List.length_cons, Nat.add_mul, Nat.one_mul] at g3
    exact ⟨fun d hd => g1 d (List.mem_cons_of_mem _ hd), a + b, g2.step (g1 c (by simp)), by omega⟩
  · rintro r ⟨y4, rfl⟩
    simp
    exact hK
end
end Dl

/-! plain law k11, the end -/
namespace Dl
open PySem
open PySem.Spec
open PyProof.Rows
open L2
section
variable {st st0 : Sto} {k : KS} {x : XS0} {n m : Nat}
end
end Dl

/-! plain laws, part 13: one cursor near the ends (pure) -/
namespace Dl
open PySem
open PySem.Spec
open PyProof.Rows
open L2
def ZR (b f : Nat) (ks : List Nat) : Zp := zfold (mk (-(b : Int)) b, mk 0 f) ks
theorem zl60 (l r : List Itm) : (zstep (l, r) 60).1.length = l.length - 1 ∧ (zstep (l, r) 60).2.length = r.length + min 1 l.length := by
  cases l with
  | nil => simp [zstep]
  | cons a l => simp [zstep, List.getLast?_eq_getLast]
theorem zl62 (l r : List Itm) : (zstep (l, r) 62).1.length = l.length + min 1 r.length ∧ (zstep (l, r) 62).2.length = r.length - 1 := by simp [zstep]
theorem zl45 (l r : List Itm) : (zstep (l, r) 45).1.length = l.length - 1 ∧ (zstep (l, r) 45).2.length = r.length := by simp [zstep]
theorem zl35 (l r : List Itm) : (zstep (l, r) 35).1.length = l.length ∧ (zstep (l, r) 35).2.length = r.length - 1 := by simp [zstep]
theorem zlet (l r : List Itm) {k : Nat} (h1 : k ≠ 60) (h2 : k ≠ 62) (h3 : k ≠ 45) (h4 : k ≠ 35) : (zstep (l, r) k).1.length = l.length + 1 ∧ (zstep (l, r) k).2.length = r.length := by simp [zstep, h1, h2, h3, h4]
/-- what a key does to the far run's numbers -/
theorem far_nums (g : Far) (k : Nat) : ∃ dl dr : Int, ((stepFar g k).l.length : Int) - (stepFar g k).a = (g.l.length : Int) - g.a + dl ∧ ((stepFar g k).r.length : Int) - (stepFar g k).b = (g.r.length : Int) - g.b + dr ∧ g.a ≤ (stepFar g k).a ∧ g.b ≤ (stepFar g k).b ∧
    ((k = 60 ∧ dl = -1 ∧ dr = 1) ∨ (k = 62 ∧ dl = 1 ∧ dr = -1) ∨ (k = 45 ∧ dl = -1 ∧ dr = 0) ∨ (k = 35 ∧ dl = 0 ∧ dr = -1) ∨ (k ≠ 60 ∧ k ≠ 62 ∧ k ≠ 45 ∧ k ≠ 35 ∧ dl = 1 ∧ dr = 0)) := by
  obtain ⟨n1, n2⟩ := pad_ne g k
  have hp : ((padF g k).l.length : Int) - (padF g k).a = (g.l.length : Int) - g.a ∧ ((padF g k).r.length : Int) - (padF g k).b = (g.r.length : Int) - g.b ∧ g.a ≤ (padF g k).a ∧ g.b ≤ (padF g k).b := by
    unfold padF
    dsimp only
    by_cases hA : (k = 45 ∨ k = 60) ∧ g.l = []
    · rw [if_pos hA]
      by_cases hB : (k = 35 ∨ k = 62) ∧ g.r = []
      · rw [if_pos hB]
        simp [hA.2, hB.2]
        omega
      · rw [if_neg hB]
        simp [hA.2]
        omega
    · rw [if_neg hA]
      by_cases hB : (k = 35 ∨ k = 62) ∧ g.r = []
      · rw [if_pos hB]
        simp [hB.2]
        omega
      · rw [if_neg hB]
        exact ⟨rfl, rfl, Nat.le_refl _, Nat.le_refl _⟩
  obtain ⟨p1, p2, p3, p4⟩ := hp
  show ∃ dl dr : Int, (((zstep ((padF g k).l, (padF g k).r) k).1.length : Nat) : Int) - (padF g k).a = _ ∧ (((zstep ((padF g k).l, (padF g k).r) k).2.length : Nat) : Int) - (padF g k).b = _ ∧ g.a ≤ (padF g k).a ∧ g.b ≤ (padF g k).b ∧ _
  have l1 : (k = 45 ∨ k = 60) → 0 < (padF g k).l.length := fun h => List.length_pos_iff.mpr (n1 h)
  have l2 : (k = 35 ∨ k = 62) → 0 < (padF g k).r.length := fun h => List.length_pos_iff.mpr (n2 h)
  generalize padF g k = f at *
  by_cases h60 : k = 60
  · subst h60
    have := zl60 f.l f.r
    have := l1 (.inr rfl)
    exact ⟨-1, 1, by omega, by omega, p3, p4, .inl ⟨rfl, rfl, rfl⟩⟩
  · by_cases h62 : k = 62
    · subst h62
      have := zl62 f.l f.r
      have := l2 (.inr rfl)
      exact ⟨1, -1, by omega, by omega, p3, p4, .inr (.inl ⟨rfl, rfl, rfl⟩)⟩
    · by_cases h45 : k = 45
      · subst h45
        have := zl45 f.l f.r
        have := l1 (.inl rfl)
        exact ⟨-1, 0, by omega, by omega, p3, p4, .inr (.inr (.inl ⟨rfl, rfl, rfl⟩))⟩
      · by_cases h35 : k = 35
        · subst h35
          have := zl35 f.l f.r
          have := l2 (.inl rfl)
          exact ⟨0, -1, by omega, by omega, p3, p4, .inr (.inr (.inr (.inl ⟨rfl, rfl, rfl⟩)))⟩
        · have := zlet f.l f.r h60 h62 h45 h35
          exact ⟨1, 0, by omega, by omega, p3, p4, .inr (.inr (.inr (.inr ⟨h60, h62, h45, h35, rfl, rfl⟩)))⟩
/-- the reaches of a list together -/
def rsum (ks : List Nat) : Nat := (runF' ks).a + (runF' ks).b
end Dl

/-! plain laws, part 13b: the program's runs near the ends -/
namespace Dl
open PySem
open PySem.Spec
open PyProof.Rows
open L2
section
variable {st st0 : Sto} {k : KS} {x : XS0} {n m : Nat}
end
end Dl

/-! plain laws, part 13c: the least layout -/
namespace Dl
open PySem
open PySem.Spec
open PyProof.Rows
open L2
abbrev Cell := Nat × Nat
end Dl

/-! plain laws, part 13d: the least layout, by the program and by the law -/
namespace Dl
open PySem
open PySem.Spec
open PyProof.Rows
open L2
def DP (s t : List Nat) : Cell → Bool := fun c => decide (ZR c.1 c.2 s ≠ ZR c.1 c.2 t)
theorem intR_range' (a n : Nat) : intR a n = (List.range' a n).map fun i : Nat => PyData.int i := by
  unfold intR
  rw [List.range'_eq_map_range, List.map_map]
  refine List.map_congr_left fun i _ => ?_
  show PyData.int _ = PyData.int _
  congr 1
section
variable {st st0 : Sto} {k : KS} {x : XS0} {n m : Nat}
end
theorem pad_sum (f : Far) (k : Nat) : (padF f k).a + (padF f k).b ≤ f.a + f.b + 1 := by
  unfold padF
  dsimp only
  by_cases h1 : (k = 45 ∨ k = 60) ∧ f.l = []
  · have h2 : ¬ ((k = 35 ∨ k = 62) ∧ f.r = []) := by
      rintro ⟨h, _⟩
      omega
    rw [if_pos h1, if_neg h2]
    dsimp only
    omega
  · rw [if_neg h1]
    split
    · dsimp only
      omega
    · omega
theorem far_sum : ∀ (ks : List Nat) (f : Far), (ks.foldl stepFar f).a + (ks.foldl stepFar f).b ≤ f.a + f.b + ks.length
  | [], f => by simp
  | k :: l, f => by
    have h1 := far_sum l (stepFar f k)
    have h2 := pad_sum f k
    have e1 : (stepFar f k).a = (padF f k).a := rfl
    have e2 : (stepFar f k).b = (padF f k).b := rfl
    rw [List.foldl_cons, List.length_cons]
    omega
theorem rsum_len (ks : List Nat) : rsum ks ≤ ks.length := by
  have := far_sum ks ⟨0, 0, [], []⟩
  unfold rsum runF'
  dsimp only at this
  omega
section
variable {st st0 : Sto} {k : KS} {x : XS0} {n m : Nat}
end
end Dl

/-! plain laws, part 15: nets, alike lists, least layouts -/
namespace Dl
open PySem
open PySem.Spec
open PyProof.Rows
open L2
def netK (k : Nat) : Int := if k = 45 ∨ k = 35 then -1 else if k = 60 ∨ k = 62 then 0 else 1
def netI (ks : List Nat) : Int := (ks.map netK).sum
theorem far_net : ∀ (ks : List Nat) (g : Far), (((ks.foldl stepFar g).l.length : Int) - (ks.foldl stepFar g).a) + (((ks.foldl stepFar g).r.length : Int) - (ks.foldl stepFar g).b) = ((g.l.length : Int) - g.a) + ((g.r.length : Int) - g.b) + netI ks
  | [], g => by simp [netI]
  | k :: l, g => by
    have ih := far_net l (stepFar g k)
    obtain ⟨dl, dr, h1, h2, _, _, h3⟩ := far_nums g k
    have e : netI (k :: l) = netK k + netI l := by simp [netI]
    have ek : dl + dr = netK k := by
      unfold netK
      rcases h3 with ⟨rfl, rfl, rfl⟩ | ⟨rfl, rfl, rfl⟩ | ⟨rfl, rfl, rfl⟩ | ⟨rfl, rfl, rfl⟩ | ⟨a, b, c, d, rfl, rfl⟩
      · rfl
      · rfl
      · rfl
      · rfl
      · rw [if_neg (by omega), if_neg (by omega)]
        rfl
    rw [List.foldl_cons]
    omega
/-! ### the sums -/
def sumStep (acc : List Int) (k : Nat) : List Int := if k = 45 ∨ k = 35 then acc ++ [acc.getLast?.getD 0 + 1] else if k = 60 ∨ k = 62 then acc else acc ++ [acc.getLast?.getD 0 - 1]
def sumsL (ks : List Nat) : List Int := ks.foldl sumStep [0]
theorem sumStep_len (acc : List Int) (k : Nat) : (sumStep acc k).length ≤ acc.length + 1 := by
  unfold sumStep
  split
  · simp
  · split
    · omega
    · simp
theorem sumStep_last {acc : List Int} {k : Nat} {i : Int} (h : acc.getLast? = some i) : (sumStep acc k).getLast? = some (i - netK k) := by
  unfold sumStep netK
  rw [h]
  split
  · simp
  · split
    · rw [h]
      simp
    · simp
theorem sums_last : ∀ (ks : List Nat) (acc : List Int) (i : Int), acc.getLast? = some i → (ks.foldl sumStep acc).getLast? = some (i - netI ks)
  | [], acc, i, h => by simp [h, netI]
  | k :: l, acc, i, h => by
    have := sums_last l _ _ (sumStep_last (k := k) h)
    rw [List.foldl_cons, this]
    simp [netI]
    try omega
section
variable {st st0 : Sto} {k : KS} {x : XS0} {n m : Nat}
theorem r_sums_of {ks : List Nat} (hz : ks.length ≤ 1000) (h : k (.d (.list ((sumsL ks).map PyData.int))) st) : F_sums_of [.d (.str (S ks))] st k x := by
  simp [F_sums_of, e_run, w_sums_of, signs_S]
  refine ⟨by rw [sizeLine_eq]; omega, ?_⟩
  refine loopF_fold (α := Nat) (σ := List Int) sign sumStep (fun l a => a ≠ [] ∧ a.length + l.length ≤ 2000)
    (fun a r => ∃ y2 : Option D, r = ⟨[some (.d (.str (S ks))), some (.l st.length), y2.map R.d], st ++ [some (a.map PyData.int)]⟩) ?_ ?_ ks [0] _ ⟨by simp, by simp; omega⟩ ⟨none, by simp⟩ ?_
  · rintro c l a r K ⟨g1, g2⟩ ⟨y2, rfl⟩ hK
    simp only [List.length_cons] at g2
    obtain ⟨i, hi⟩ : ∃ i, a.getLast? = some i := by
      cases e : a.getLast? with
      | none => exact absurd (List.getLast?_eq_none_iff.mp e) g1
      | some i => exact ⟨i, rfl⟩
    have hat : atI (a.map PyData.int) (-1) = some (.int i) := by simp [hi]
    simp [sign_S]
    have go : ∀ (a' : List Int), sumStep a c = a' → K ⟨[some (.d (.str (S ks))), some (.l st.length), some (.d (.str (S [c])))], st ++ [some (a'.map PyData.int)]⟩ := by
      rintro a' rfl
      exact hK _ ⟨some (.str (S [c])), rfl⟩
    by_cases h1 : c = 45 ∨ c = 35
    · rw [if_pos h1, g_ixLs hat]
      simp [uAppend, sizeLine_eq]
      refine ⟨by omega, ?_⟩
      have := go (a ++ [i + 1]) (by simp [sumStep, h1, hi])
      simpa using this
    · rw [if_neg h1]
      by_cases h2 : c = 60 ∨ c = 62
      · rw [if_neg (by omega)]
        exact go a (by simp [sumStep, h1, h2])
      · rw [if_pos (by omega), g_ixLs hat]
        simp [uAppend, sizeLine_eq]
        refine ⟨by omega, ?_⟩
        have := go (a ++ [i - 1]) (by simp [sumStep, h1, h2, hi])
        simpa using this
  · rintro c l a ⟨g1, g2⟩
    simp only [List.length_cons] at g2
    have := sumStep_len a c
    refine ⟨?_, by omega⟩
    unfold sumStep
    split
    · simp
    · split
      · exact g1
      · simp
  · rintro r ⟨y2, rfl⟩
    simp
    exact h
theorem r_net_of {ks : List Nat} (hz : ks.length ≤ 1000) (hk : ∀ c ∈ ks, isKeyB c = true) (h : k (.d (.int (netI ks))) st) : F_net_of [.d (.str (S ks))] st k x := by
  simp [F_net_of, e_run, w_net_of]
  refine r_check_keys (by omega) ?_
  rw [if_pos (List.all_eq_true.mpr hk)]
  try simp
  refine r_sums_of hz ?_
  have hl : (sumsL ks).getLast? = some (0 - netI ks) := sums_last ks [0] 0 rfl
  have hat : atI ((sumsL ks).map PyData.int) (-1) = some (.int (0 - netI ks)) := by simp [hl]
  simp
  rw [g_ixLs hat]
  simp
  simpa using h
theorem net_app (a b : List Nat) : netI (a ++ b) = netI a + netI b := by simp [netI]
end
end Dl

/-! plain laws, part 12: errors of key lists -/
namespace Dl
open PySem
open PySem.Spec
open PyProof.Rows
open L2
@[simp ↓] theorem e_try {cs : List Str} {i j : Nat} {wb : WS} {sl : List (Option R)} {st : Sto} {p : Post} : wTry cs i j wb ⟨sl, st⟩ p = wb ⟨sl, st⟩ { p with ex := fun e r' => e.cn ∈ cs ∧ e.fs = [] ∧ p.nx ⟨(r'.sl.set i none).set j (some (.o (.exc e))), r'.st⟩ } := rfl
@[simp ↓] theorem e_isX {tab : List (Str × Bool)} {we : WE} {sl : List (Option R)} {st : Sto} {k : KE} {x : XQ} : wIsX tab we ⟨sl, st⟩ k x = we ⟨sl, st⟩ (fun y r1 => match y with
  | .o (.exc e) => match tab.lookup e.cn with
    | some b => k (.d (.bool b)) r1
    | none => False
  | _ => False) x := rfl
@[simp ↓] theorem e_isNo {we : WE} {sl : List (Option R)} {st : Sto} {k : Bool → Env → Prop} {x : XQ} : wIsNo we ⟨sl, st⟩ k x = we ⟨sl, st⟩ (fun y r1 => match y with
  | .o (.exc _) => k false r1
  | y => dref y r1 fun d => gIs d .none fun b => k b r1) x := rfl
@[simp ↓] theorem e_reprL {wr : WA} {sl : List (Option R)} {st : Sto} {k : KE} {x : XQ} : wReprL wr ⟨sl, st⟩ k x = wr ⟨sl, st⟩ (fun ys r1 => drefs ys r1 fun ds => ys.length ≤ sizeLine ∧ ((shp (.list ds) = true) ∨ (tupOnlyA ds = true ∧ (PyData.list ds).depth ≤ 64)) ∧ (PyData.list ds).showable = true ∧ (PyData.list ds).shown.length ≤ sizeLine ∧ k (.d (.str (PyData.list ds).shown)) r1) x := rfl
section
variable {st st0 : Sto} {k : KS} {x : XS0} {n m : Nat}
theorem r_check_good {ks : List Nat} {N : Nat} (hk : KeyRow N ks) (hN : N ≤ 1000) (h : k (.d .none) st) : F_check_keys [.d (.str (S ks))] st k x := by
  have := hk.1
  refine r_check_keys (by omega) ?_
  rw [if_pos (List.all_eq_true.mpr hk.2)]
  exact h
/-! valid lists -/
theorem r_reach_good {ks : List Nat} {N : Nat} (hk : KeyRow N ks) (hN : N ≤ 1000) (h : k (.d (.tuple [.int (runF' ks).a, .int (runF' ks).b])) st) : F_reach_of [.d (.str (S ks))] st k x := by
  have h1 := hk.1
  simp [F_reach_of, e_run, w_reach_of]
  refine r_check_good hk hN ?_
  try simp
  refine r_far_run (by omega) (fun c hc => key_small (hk.2 c hc)) ?_
  simp [farD]
  exact h
theorem sums_ne {ks : List Nat} : sumsL ks ≠ [] := by
  have h := sums_last ks [0] 0 rfl
  intro e
  have e2 : ks.foldl sumStep [0] = [] := e
  rw [e2] at h
  cases h
theorem r_depth_good {ks : List Nat} {N : Nat} (hk : KeyRow N ks) (hN : N ≤ 1000) (h : k (.d (.int (maxI (sumsL ks)))) st) : F_depth_of [.d (.str (S ks))] st k x := by
  have h1 := hk.1
  simp [F_depth_of, e_run, w_depth_of]
  refine r_check_good hk hN ?_
  try simp
  refine r_sums_of (by omega) ?_
  simp [gMax]
  have e := intsD_map (fun i : Int => i) (sumsL ks)
  have e2 : intsD ((sumsL ks).map PyData.int) = some (sumsL ks) := by simpa using e
  rw [e2]
  exact ⟨sums_ne, h⟩
end
end Dl

/-! plain laws, part 8a: runs on layouts -/
namespace Dl
open PySem
open PySem.Spec
open PyProof.Rows
open L2
/-! ### the pure form of the moves: each gap with the move behind which it is gone -/
section
variable {st : Sto} {k : KS} {x : XS0}
end
end Dl

/-! plain laws, part 8b: a course -/
namespace Dl
open PySem
open PySem.Spec
open PyProof.Rows
open L2
/-! ### the dict of the gaps that are gone -/
end Dl

/-! plain laws, part 8e: courses far from the ends -/
namespace Dl
open PySem
open PySem.Spec
open PyProof.Rows
open L2
theorem netK_cases (c : Nat) : netK c = -1 ∨ netK c = 0 ∨ netK c = 1 := by
  unfold netK
  split
  · simp
  · split <;> simp
theorem netI_cons (c : Nat) (ks : List Nat) : netI (c :: ks) = netK c + netI ks := by simp [netI]
/-- the first key behind which a gap is gone -/
def fst0 (g : Int) : List Nat → Option Nat
  | [] => none
  | c :: ks => if g + netK c ≤ 0 then some 1 else (fst0 (g + netK c) ks).map (· + 1)
theorem fst0_cons (g : Int) (c : Nat) (ks : List Nat) : fst0 g (c :: ks) = if g + netK c ≤ 0 then some 1 else (fst0 (g + netK c) ks).map (· + 1) := rfl
theorem fst0_app : ∀ (a b : List Nat) (g : Int), fst0 g (a ++ b) = (fst0 g a).or ((fst0 (g + netI a) b).map (· + a.length))
  | [], b, g => by
    simp [fst0, netI]
  | c :: a, b, g => by
    rw [List.cons_append, netI_cons, fst0_cons, fst0_cons]
    by_cases h : g + netK c ≤ 0
    · simp [h]
    · rw [if_neg h, if_neg h, fst0_app a b]
      have e : g + (netK c + netI a) = g + netK c + netI a := by omega
      rw [e]
      cases fst0 (g + netK c) a with
      | some m => simp
      | none =>
        cases fst0 (g + netK c + netI a) b with
        | none => simp
        | some m =>
          simp
          omega
/-- the depth of a list, from its first key on -/
def dpR : List Nat → Int
  | [] => 0
  | c :: ks => max 0 (dpR ks - netK c)
theorem dpR_cons (c : Nat) (ks : List Nat) : dpR (c :: ks) = max 0 (dpR ks - netK c) := rfl
theorem dpR_nonneg : ∀ ks, 0 ≤ dpR ks
  | [] => by simp [dpR]
  | c :: ks => by
    unfold dpR
    omega
theorem dpR_le : ∀ ks, dpR ks ≤ (ks.length : Int)
  | [] => by simp [dpR]
  | c :: ks => by
    have := dpR_le ks
    have := netK_cases c
    unfold dpR
    simp
    omega
theorem netI_bd : ∀ ks, -(ks.length : Int) ≤ netI ks ∧ netI ks ≤ (ks.length : Int)
  | [] => by simp [netI]
  | c :: ks => by
    have := netI_bd ks
    have := netK_cases c
    rw [netI_cons]
    simp
    omega
theorem dpR_app : ∀ a b : List Nat, dpR (a ++ b) = max (dpR a) (dpR b - netI a)
  | [], b => by
    have := dpR_nonneg b
    simp [dpR, netI]
    omega
  | c :: a, b => by
    rw [List.cons_append, netI_cons, dpR_cons, dpR_cons, dpR_app a b]
    omega
theorem fst0_none : ∀ (ks : List Nat) (g : Int), 1 ≤ g → (fst0 g ks = none ↔ dpR ks < g)
  | [], g, hg => by
    simp [fst0, dpR]
    omega
  | c :: ks, g, hg => by
    have := dpR_nonneg ks
    rw [fst0_cons, dpR_cons]
    by_cases h : g + netK c ≤ 0
    · rw [if_pos h]
      simp
      omega
    · rw [if_neg h, Option.map_eq_none_iff, fst0_none ks _ (by omega)]
      omega
theorem maxI_snoc : ∀ {l : List Int} {z : Int}, l ≠ [] → maxI (l ++ [z]) = max (maxI l) z
  | [x], z, _ => rfl
  | x :: y :: l, z, _ => by
    have ih := maxI_snoc (l := y :: l) (z := z) (by simp)
    show max x (maxI ((y :: l) ++ [z])) = max (max x (maxI (y :: l))) z
    rw [ih]
    omega
theorem maxI_sums : ∀ (ks : List Nat) (acc : List Int) (i : Int), acc.getLast? = some i → maxI (ks.foldl sumStep acc) = max (maxI acc) (i + dpR ks)
  | [], acc, i, h => by
    have hne : acc ≠ [] := by
      rintro rfl
      cases h
    have := (maxI_mem hne).2 i (List.mem_of_getLast? h)
    simp [dpR]
    omega
  | c :: ks, acc, i, h => by
    have hne : acc ≠ [] := by
      rintro rfl
      cases h
    have h1 := (maxI_mem hne).2 i (List.mem_of_getLast? h)
    have h2 := dpR_nonneg ks
    have hl := sumStep_last (k := c) h
    rw [List.foldl_cons, maxI_sums ks _ _ hl]
    rw [dpR_cons]
    unfold sumStep netK
    rw [h]
    simp only [Option.getD_some]
    split
    · rw [maxI_snoc hne]
      omega
    · split
      · omega
      · rw [maxI_snoc hne]
        omega
theorem depth_dp (ks : List Nat) : maxI (sumsL ks) = dpR ks := by
  have := maxI_sums ks [0] 0 rfl
  have := dpR_nonneg ks
  unfold sumsL
  rw [maxI_sums ks [0] 0 rfl]
  simp [maxI]
  omega
/-! ### lists with names -/
/-! ### one run -/
def live1 (ks : List Nat) (g : Int) : Option Int := if fst0 g ks = none then some (g + netI ks) else none
def nm (f : Int → Option Int) (l : List (Nat × Int)) : List (Nat × Int) := l.filterMap fun p => (f p.2).map fun m => (p.1, m)
theorem live1_app (a b : List Nat) : live1 (a ++ b) = fun g => (live1 a g).bind (live1 b) := by
  funext g
  unfold live1
  rw [fst0_app, net_app]
  cases h : fst0 g a with
  | some m => simp
  | none =>
    simp
    cases h2 : fst0 (g + netI a) b with
    | some m => simp [h2]
    | none =>
      simp [h2]
      omega
end Dl

/-! plain laws, part 51a: cursors that are far from one another act alone -/
namespace Dl
open PySem
open PySem.Spec
open PyProof.Rows
open L2
abbrev Zn := List Nat × List Nat
/-- a key at one cursor, on characters -/
def zstN (s : Zn) (k : Nat) : Zn :=
  if k = 60 then (s.1.dropLast, s.1.getLast?.toList ++ s.2)
  else if k = 62 then (s.1 ++ s.2.take 1, s.2.drop 1)
  else if k = 45 then (s.1.dropLast, s.2)
  else if k = 35 then (s.1, s.2.drop 1)
  else (s.1 ++ [k], s.2)
def JB : List Nat → List Zn → List (List Nat)
  | B, [] => [B]
  | B, z :: r => (B ++ z.1) :: JB z.2 r
/-- the stretches of cursors, each with what is left and right of it -/
def JJ : List Zn → List (List Nat)
  | [] => []
  | z :: r => z.1 :: JB z.2 r
theorem JB_ne (B : List Nat) (r : List Zn) : JB B r ≠ [] := by cases r <;> simp [JB]
theorem JB_cons (B : List Nat) (r : List Zn) : ∃ t q, JB B r = t :: q := by cases r <;> exact ⟨_, _, rfl⟩
theorem typ_JB {k : Nat} : ∀ (r : List Zn) (B : List Nat), typeS k (JB B r) = JB B (r.map fun z => (z.1 ++ [k], z.2))
  | [], B => rfl
  | z :: r, B => by
    have ih := typ_JB (k := k) r z.2
    obtain ⟨t, q, e⟩ := JB_cons z.2 r
    rw [JB, List.map_cons, JB, ← ih, e]
    show (B ++ z.1 ++ [k]) :: typeS k (t :: q) = _
    rw [List.append_assoc]
theorem midOk_cons {s t : List Nat} {r : List (List Nat)} : MidOk (s :: t :: r) ↔ s ≠ [] ∧ MidOk (t :: r) := Iff.rfl
theorem bs_JB : ∀ (r : List Zn) (B : List Nat), (∀ z ∈ r, z.1 ≠ []) → MidOk (JB B (r.map fun z => (z.1.dropLast, z.2))) → bsM (JB B r) = JB B (r.map fun z => (z.1.dropLast, z.2))
  | [], B, _, _ => rfl
  | z :: r, B, h, hM => by
    have hz := h z (by simp)
    obtain ⟨t, q, e⟩ := JB_cons z.2 r
    obtain ⟨t', q', e'⟩ := JB_cons z.2 (r.map fun z => (z.1.dropLast, z.2))
    rw [List.map_cons, JB, e'] at hM
    obtain ⟨h1, h2⟩ := midOk_cons.mp hM
    have ih := bs_JB r z.2 (fun y hy => h y (by simp [hy])) (by rw [e']; exact h2)
    rw [JB, List.map_cons, JB, ← ih, e]
    have ed : (B ++ z.1).dropLast = B ++ z.1.dropLast := List.dropLast_append_of_ne_nil hz
    show (if (B ++ z.1).dropLast = [] then _ else (B ++ z.1).dropLast :: bsM (t :: q)) = _
    rw [ed, if_neg h1]
theorem mv_JB : ∀ (r : List Zn) (p B : List Nat), (∀ z ∈ r, z.1 ≠ []) → MidOk (JB (p ++ B) (r.map fun z => (z.1.dropLast, z.1.getLast?.toList ++ z.2))) → mvM p (JB B r) = JB (p ++ B) (r.map fun z => (z.1.dropLast, z.1.getLast?.toList ++ z.2))
  | [], p, B, _, _ => rfl
  | z :: r, p, B, h, hM => by
    have hz := h z (by simp)
    obtain ⟨t, q, e⟩ := JB_cons z.2 r
    obtain ⟨t', q', e'⟩ := JB_cons (z.1.getLast?.toList ++ z.2) (r.map fun z => (z.1.dropLast, z.1.getLast?.toList ++ z.2))
    rw [List.map_cons, JB, e'] at hM
    obtain ⟨h1, h2⟩ := midOk_cons.mp hM
    have ih := mv_JB r z.1.getLast?.toList z.2 (fun y hy => h y (by simp [hy])) (by rw [e']; exact h2)
    rw [JB, List.map_cons, JB, ← ih, e]
    have ed : (p ++ (B ++ z.1)).dropLast = p ++ B ++ z.1.dropLast := by
      rw [← List.append_assoc, List.dropLast_append_of_ne_nil hz]
    have eg : (p ++ (B ++ z.1)).getLast?.toList = z.1.getLast?.toList := by
      rw [← List.append_assoc, List.getLast?_append, List.getLast?_eq_getLast hz]
      rfl
    show (if (p ++ (B ++ z.1)).dropLast = [] then _ else (p ++ (B ++ z.1)).dropLast :: mvM (p ++ (B ++ z.1)).getLast?.toList (t :: q)) = _
    rw [ed, eg, if_neg h1]
theorem sok_tail {s t : List Nat} {r : List (List Nat)} (h : SOk (s :: t :: r)) : MidOk (t :: r) := by
  obtain ⟨s', m, t', e, hm⟩ := h
  injection e with _ e2
  rw [e2]
  exact (midOk_form m t').mpr hm
/-- a key to the left -/
theorem left_J {zs : List Zn} (hne : zs ≠ []) {k : Nat} (hk : k = 45 ∨ k = 60) (hL : ∀ z ∈ zs, z.1 ≠ []) (hM : SOk (JJ (zs.map (zstN · k)))) : stepS (JJ zs) k = JJ (zs.map (zstN · k)) := by
  cases zs with
  | nil => exact absurd rfl hne
  | cons z r =>
    obtain ⟨t, q, e⟩ := JB_cons z.2 r
    have hr : ∀ y ∈ r, y.1 ≠ [] := fun y hy => hL y (by simp [hy])
    rcases hk with rfl | rfl
    · have ez : ∀ y : Zn, zstN y 45 = (y.1.dropLast, y.2) := fun y => rfl
      simp only [ez] at hM ⊢
      obtain ⟨t', q', e'⟩ := JB_cons z.2 (r.map fun z => (z.1.dropLast, z.2))
      have hM' : MidOk (JB z.2 (r.map fun z => (z.1.dropLast, z.2))) := by
        rw [List.map_cons, JJ] at hM
        simp only [e'] at hM ⊢
        exact sok_tail hM
      have := bs_JB r z.2 hr hM'
      rw [List.map_cons, JJ, JJ]
      simp only
      rw [← this, e]
      rfl
    · have ez : ∀ y : Zn, zstN y 60 = (y.1.dropLast, y.1.getLast?.toList ++ y.2) := fun y => rfl
      simp only [ez] at hM ⊢
      obtain ⟨t', q', e'⟩ := JB_cons (z.1.getLast?.toList ++ z.2) (r.map fun z => (z.1.dropLast, z.1.getLast?.toList ++ z.2))
      have hM' : MidOk (JB (z.1.getLast?.toList ++ z.2) (r.map fun z => (z.1.dropLast, z.1.getLast?.toList ++ z.2))) := by
        rw [List.map_cons, JJ] at hM
        simp only [e'] at hM ⊢
        exact sok_tail hM
      have := mv_JB r z.1.getLast?.toList z.2 hr hM'
      rw [List.map_cons, JJ, JJ]
      simp only
      rw [← this, e]
      rfl
def revC (zs : List Zn) : List Zn := (zs.map fun z => (z.2.reverse, z.1.reverse)).reverse
theorem JB_split : ∀ (q : List Zn) (B X Y C W : List Nat), JB B (q ++ [(X, Y ++ C)]) ++ [W] = JB B (q ++ [(X, Y), (C, W)])
  | [], B, X, Y, C, W => by simp [JB]
  | z :: q, B, X, Y, C, W => by
    have ih := JB_split q z.2 X Y C W
    show (B ++ z.1) :: (JB z.2 (q ++ [(X, Y ++ C)]) ++ [W]) = _
    rw [ih]
    rfl
theorem JJ_split (q : List Zn) (X Y C W : List Nat) : JJ (q ++ [(X, Y ++ C)]) ++ [W] = JJ (q ++ [(X, Y), (C, W)]) := by
  cases q with
  | nil => simp [JJ, JB]
  | cons z q =>
    have := JB_split q z.2 X Y C W
    show z.1 :: (JB z.2 (q ++ [(X, Y ++ C)]) ++ [W]) = _
    rw [this]
    rfl
theorem rev_JJ : ∀ (r : List Zn) (A B : List Nat), revS (JJ ((A, B) :: r)) = JJ (revC ((A, B) :: r))
  | [], A, B => by simp [JJ, JB, revS, revC]
  | z :: r, A, B => by
    have ih := rev_JJ r (B ++ z.1) z.2
    have e1 : JJ ((A, B) :: z :: r) = A :: JJ ((B ++ z.1, z.2) :: r) := rfl
    have e2 : revS (A :: JJ ((B ++ z.1, z.2) :: r)) = revS (JJ ((B ++ z.1, z.2) :: r)) ++ [A.reverse] := by simp [revS]
    rw [e1, e2, ih]
    have e3 : revC ((B ++ z.1, z.2) :: r) = revC r ++ [(z.2.reverse, z.1.reverse ++ B.reverse)] := by simp [revC]
    have e4 : revC ((A, B) :: z :: r) = revC r ++ [(z.2.reverse, z.1.reverse), (B.reverse, A.reverse)] := by simp [revC]
    rw [e3, e4, JJ_split]
theorem rev_J (zs : List Zn) : revS (JJ zs) = JJ (revC zs) := by
  cases zs with
  | nil => rfl
  | cons z r => exact rev_JJ r z.1 z.2
theorem revC_revC (zs : List Zn) : revC (revC zs) = zs := by
  unfold revC
  rw [List.map_reverse, List.reverse_reverse, List.map_map]
  conv => rhs; rw [← List.map_id zs]
  refine List.map_congr_left fun z _ => ?_
  simp
/-- a key to the right -/
theorem right_J {zs : List Zn} (hne : zs ≠ []) {k k' : Nat} (hk : (k = 35 ∧ k' = 45) ∨ (k = 62 ∧ k' = 60)) (hR : ∀ z ∈ zs, z.2 ≠ []) (hM : SOk (JJ (zs.map (zstN · k)))) : stepS (JJ zs) k = JJ (zs.map (zstN · k)) := by
  have e0 : stepS (JJ zs) k = revS (stepS (revS (JJ zs)) k') := by
    rcases hk with ⟨rfl, rfl⟩ | ⟨rfl, rfl⟩ <;> rfl
  have e1 : (revC zs).map (zstN · k') = revC (zs.map (zstN · k)) := by
    unfold revC
    rw [List.map_reverse, List.map_map, List.map_map]
    congr 1
    refine List.map_congr_left fun z hz => ?_
    have hz2 := hR z hz
    rcases hk with ⟨rfl, rfl⟩ | ⟨rfl, rfl⟩
    · show ((z.2.reverse).dropLast, z.1.reverse) = ((z.2.drop 1).reverse, z.1.reverse)
      rw [List.dropLast_reverse]
      simp
    · show ((z.2.reverse).dropLast, (z.2.reverse).getLast?.toList ++ z.1.reverse) = ((z.2.drop 1).reverse, (z.1 ++ z.2.take 1).reverse)
      obtain ⟨y, v, hv⟩ : ∃ y v, z.2 = y :: v := by
        cases hq : z.2 with
        | nil => exact absurd hq hz2
        | cons y v => exact ⟨y, v, rfl⟩
      rw [hv]
      simp
  rw [e0, rev_J]
  have hM2 : SOk (JJ ((revC zs).map (zstN · k'))) := by
    rw [e1, ← rev_J]
    exact hM.rev
  rw [left_J (k := k') (by simpa [revC] using hne) (by rcases hk with ⟨_, h⟩ | ⟨_, h⟩ <;> simp [h]) (fun z hz => by
    unfold revC at hz
    obtain ⟨y, hy, rfl⟩ := List.mem_map.mp (List.mem_reverse.mp hz)
    simpa using hR y hy) hM2, e1, rev_J, revC_revC]
theorem step_J {zs : List Zn} (hne : zs ≠ []) {k : Nat} (hL : (k = 45 ∨ k = 60) → ∀ z ∈ zs, z.1 ≠ []) (hR : (k = 35 ∨ k = 62) → ∀ z ∈ zs, z.2 ≠ []) (hM : SOk (JJ (zs.map (zstN · k)))) : stepS (JJ zs) k = JJ (zs.map (zstN · k)) := by
  by_cases h1 : k = 45 ∨ k = 60
  · exact left_J hne h1 (hL h1) hM
  · by_cases h2 : k = 35 ∨ k = 62
    · rcases h2 with h2 | h2
      · exact right_J (k' := 45) hne (.inl ⟨h2, rfl⟩) (hR (.inl h2)) hM
      · exact right_J (k' := 60) hne (.inr ⟨h2, rfl⟩) (hR (.inr h2)) hM
    · have ez : ∀ y : Zn, zstN y k = (y.1 ++ [k], y.2) := fun y => by
        unfold zstN
        rw [if_neg (by omega), if_neg (by omega), if_neg (by omega), if_neg (by omega)]
      simp only [ez]
      cases zs with
      | nil => exact absurd rfl hne
      | cons z r =>
        obtain ⟨t, q, e⟩ := JB_cons z.2 r
        have := typ_JB (k := k) r z.2
        unfold stepS
        rw [if_neg (by omega), if_neg (by omega), if_neg (by omega), if_neg (by omega), List.map_cons, JJ, JJ]
        simp only
        rw [← this, e]
        rfl
/-! ### by the far effect -/
def phi (ch : Int → Nat) : Itm → Nat
  | .m z => ch z
  | .c c => c
def zmap (ch : Int → Nat) (z : Zp) : Zn := (z.1.map (phi ch), z.2.map (phi ch))
theorem zst_map (ch : Int → Nat) (z : Zp) (k : Nat) : zstN (zmap ch z) k = zmap ch (zstep z k) := by
  unfold zstN zstep zmap
  by_cases h60 : k = 60
  · rw [if_pos h60, if_pos h60]
    dsimp only
    rw [List.map_dropLast, List.map_append, List.getLast?_map]
    cases z.1.getLast? <;> rfl
  · rw [if_neg h60, if_neg h60]
    by_cases h62 : k = 62
    · rw [if_pos h62, if_pos h62]
      dsimp only
      rw [List.map_append, List.map_take, List.map_drop]
    · rw [if_neg h62, if_neg h62]
      by_cases h45 : k = 45
      · rw [if_pos h45, if_pos h45]
        dsimp only
        rw [List.map_dropLast]
      · rw [if_neg h45, if_neg h45]
        by_cases h35 : k = 35
        · rw [if_pos h35, if_pos h35]
          dsimp only
          rw [List.map_drop]
        · rw [if_neg h35, if_neg h35]
          dsimp only
          rw [List.map_append]
          rfl
def embG (α β : Nat) (f : Far) : Zp := (mk (-(α : Int)) (α - f.a) ++ f.l, f.r ++ mk f.b (β - f.b))
theorem pad_embG {α β : Nat} {f : Far} (k : Nat) (ha : (padF f k).a ≤ α) (hb : (padF f k).b ≤ β) : embG α β (padF f k) = embG α β f := by
  unfold padF at ha hb ⊢
  dsimp only at ha hb ⊢
  by_cases hA : (k = 45 ∨ k = 60) ∧ f.l = []
  · have hB : ¬ ((k = 35 ∨ k = 62) ∧ f.r = []) := by
      rintro ⟨h, _⟩
      omega
    rw [if_pos hA] at ha hb ⊢
    rw [if_neg hB] at ha hb ⊢
    dsimp only at ha hb
    unfold embG
    dsimp only
    rw [hA.2, List.append_nil]
    have e : α - f.a = (α - (f.a + 1)) + 1 := by omega
    rw [e, mk_snoc]
    have e2 : -((f.a + 1 : Nat) : Int) = -(α : Int) + ((α - (f.a + 1) : Nat) : Int) := by omega
    rw [e2]
  · rw [if_neg hA] at ha hb ⊢
    by_cases hB : (k = 35 ∨ k = 62) ∧ f.r = []
    · rw [if_pos hB] at ha hb ⊢
      dsimp only at ha hb
      unfold embG
      dsimp only
      rw [hB.2, List.nil_append]
      have e : β - f.b = (β - (f.b + 1)) + 1 := by omega
      rw [e, mk_succ]
      rfl
    · rw [if_neg hB]
theorem zstep_in {X Y l r : List Itm} {k : Nat} (h1 : (k = 45 ∨ k = 60) → l ≠ []) (h2 : (k = 35 ∨ k = 62) → r ≠ []) : zstep (X ++ l, r ++ Y) k = (X ++ (zstep (l, r) k).1, (zstep (l, r) k).2 ++ Y) := by
  unfold zstep
  by_cases h60 : k = 60
  · have hl := h1 (.inr h60)
    rw [if_pos h60, if_pos h60]
    dsimp only
    rw [List.dropLast_append_of_ne_nil hl, List.getLast?_append, List.getLast?_eq_getLast hl]
    simp
  · rw [if_neg h60, if_neg h60]
    by_cases h62 : k = 62
    · have hr := h2 (.inr h62)
      rw [if_pos h62, if_pos h62]
      dsimp only
      cases r with
      | nil => exact absurd rfl hr
      | cons y r => simp
    · rw [if_neg h62, if_neg h62]
      by_cases h45 : k = 45
      · have hl := h1 (.inl h45)
        rw [if_pos h45, if_pos h45]
        dsimp only
        rw [List.dropLast_append_of_ne_nil hl]
      · rw [if_neg h45, if_neg h45]
        by_cases h35 : k = 35
        · have hr := h2 (.inl h35)
          rw [if_pos h35, if_pos h35]
          dsimp only
          cases r with
          | nil => exact absurd rfl hr
          | cons y r => simp
        · rw [if_neg h35, if_neg h35]
          dsimp only
          rw [List.append_assoc]
theorem step_embG {α β : Nat} {f : Far} {k : Nat} (ha : (padF f k).a ≤ α) (hb : (padF f k).b ≤ β) : zstep (embG α β f) k = embG α β (stepFar f k) := by
  rw [← pad_embG k ha hb]
  exact zstep_in (pad_ne f k).1 (pad_ne f k).2
theorem pad_le' (f : Far) (k : Nat) : f.a ≤ (padF f k).a ∧ f.b ≤ (padF f k).b := by
  unfold padF
  dsimp only
  split <;> split <;> simp
theorem far_mono51 : ∀ (ks : List Nat) (f : Far), f.a ≤ (ks.foldl stepFar f).a ∧ f.b ≤ (ks.foldl stepFar f).b
  | [], f => ⟨Nat.le_refl _, Nat.le_refl _⟩
  | k :: ks, f => by
    obtain ⟨h1, h2⟩ := far_mono51 ks (stepFar f k)
    obtain ⟨h3, h4⟩ := pad_le' f k
    exact ⟨Nat.le_trans h3 h1, Nat.le_trans h4 h2⟩
theorem net_dp : ∀ ks : List Nat, -netI ks ≤ dpR ks
  | [] => by simp [netI, dpR]
  | c :: ks => by
    have := net_dp ks
    rw [netI_cons, dpR_cons]
    omega
/-- a cursor: so many characters left and right of it, and which -/
structure Cu where
  α : Nat
  β : Nat
  ch : Int → Nat
def Cu.at (w : Cu) (f : Far) : Zn := zmap w.ch (embG w.α w.β f)
/-- the gaps are as great as the list needs -/
def Gaps (d : Int) : Cu → List Cu → Prop
  | _, [] => True
  | w, v :: r => d < (w.β : Int) + v.α ∧ Gaps d v r
theorem JB_sok {f : Far} {n : Int} (hn : ((f.l.length : Int) - f.a) + ((f.r.length : Int) - f.b) = n) : ∀ (r : List Cu) (w : Cu), Gaps (-n) w r → w.β ≥ f.b → (∀ v ∈ r, f.a ≤ v.α ∧ f.b ≤ v.β) → MidOk (JB (w.at f).2 (r.map (·.at f)))
  | [], w, _, _, _ => by simp [JB, MidOk]
  | v :: r, w, hg, hw, hr => by
    have ih := JB_sok hn r v hg.2 (hr v (by simp)).2 fun u hu => hr u (by simp [hu])
    rw [List.map_cons, JB]
    obtain ⟨t, q, e⟩ := JB_cons (v.at f).2 (r.map (·.at f))
    rw [e] at ih ⊢
    refine midOk_cons.mpr ⟨fun z => ?_, ih⟩
    have h1 := hg.1
    have hl := congrArg List.length z
    have hv := (hr v (by simp)).1
    have q1 : (w.at f).2.length = f.r.length + (w.β - f.b) := by simp [Cu.at, zmap, embG, mk_len]
    have q2 : (v.at f).1.length = (v.α - f.a) + f.l.length := by simp [Cu.at, zmap, embG, mk_len]
    rw [List.length_append, q1, q2, List.length_nil] at hl
    omega
theorem sok_of {A t : List Nat} {q : List (List Nat)} (h : MidOk (t :: q)) : SOk (A :: t :: q) := by
  obtain ⟨m, u, e⟩ : ∃ m u, t :: q = m ++ [u] := ⟨(t :: q).dropLast, (t :: q).getLast (by simp), (List.dropLast_concat_getLast _).symm⟩
  rw [e] at h ⊢
  exact ⟨A, m, u, rfl, (midOk_form m u).mp h⟩
/-- CURSORS ACT ALONE -/
theorem act_alone (w : Cu) (r : List Cu) (D : Int) : ∀ (ks pre : List Nat), (∀ v ∈ w :: r, (runF' (pre ++ ks)).a ≤ v.α ∧ (runF' (pre ++ ks)).b ≤ v.β) → Gaps D w r → dpR (pre ++ ks) ≤ D →
    pressS (JJ ((w :: r).map (·.at (runF' pre)))) ks = JJ ((w :: r).map (·.at (runF' (pre ++ ks))))
  | [], pre, _, _, _ => by simp [pressS]
  | k :: ks, pre, hR, hG, hD => by
    have e0 : pre ++ k :: ks = (pre ++ [k]) ++ ks := by simp
    have ih := act_alone w r D ks (pre ++ [k]) (by rw [← e0]; exact hR) hG (by rw [← e0]; exact hD)
    have e1 : runF' (pre ++ [k]) = stepFar (runF' pre) k := by
      unfold runF'
      rw [List.foldl_append]
      rfl
    have hm := far_mono51 ks (runF' (pre ++ [k]))
    have e2 : ks.foldl stepFar (runF' (pre ++ [k])) = runF' (pre ++ k :: ks) := by
      rw [e0]
      unfold runF'
      rw [List.foldl_append (l := pre ++ [k])]
    rw [e2] at hm
    have hp : ∀ v ∈ w :: r, (padF (runF' pre) k).a ≤ v.α ∧ (padF (runF' pre) k).b ≤ v.β := fun v hv => by
      have := hR v hv
      rw [e1] at hm
      exact ⟨Nat.le_trans hm.1 this.1, Nat.le_trans hm.2 this.2⟩
    have es : ∀ v ∈ w :: r, zstN (v.at (runF' pre)) k = v.at (runF' (pre ++ [k])) := fun v hv => by
      unfold Cu.at
      rw [zst_map, step_embG (hp v hv).1 (hp v hv).2, e1]
    have em : ((w :: r).map (·.at (runF' pre))).map (zstN · k) = (w :: r).map (·.at (runF' (pre ++ [k]))) := by
      rw [List.map_map]
      exact List.map_congr_left es
    have hpa : ∀ v ∈ w :: r, v.at (runF' pre) = v.at (padF (runF' pre) k) := fun v hv => by
      unfold Cu.at
      rw [pad_embG k (hp v hv).1 (hp v hv).2]
    have hst : stepS (JJ ((w :: r).map (·.at (runF' pre)))) k = JJ ((w :: r).map (·.at (runF' (pre ++ [k])))) := by
      rw [← em]
      refine step_J (by simp) (fun hk z hz => ?_) (fun hk z hz => ?_) ?_
      · obtain ⟨v, hv, rfl⟩ := List.mem_map.mp hz
        have hv : v ∈ w :: r := hv
        show (v.at (runF' pre)).1 ≠ []
        rw [hpa v hv]
        have := (pad_ne (runF' pre) k).1 hk
        simp [Cu.at, zmap, embG, this]
      · obtain ⟨v, hv, rfl⟩ := List.mem_map.mp hz
        have hv : v ∈ w :: r := hv
        show (v.at (runF' pre)).2 ≠ []
        rw [hpa v hv]
        have := (pad_ne (runF' pre) k).2 hk
        simp [Cu.at, zmap, embG, this]
      · rw [em, List.map_cons, JJ]
        obtain ⟨t, q, e⟩ := JB_cons (w.at (runF' (pre ++ [k]))).2 (r.map (·.at (runF' (pre ++ [k]))))
        rw [e]
        refine sok_of ?_
        rw [← e]
        have hnet := far_net (pre ++ [k]) ⟨0, 0, [], []⟩
        have hnd := net_dp (pre ++ [k])
        have hda := dpR_app (pre ++ [k]) ks
        rw [← e0] at hda
        have hlow : -netI (pre ++ [k]) ≤ D := by omega
        have gap : ∀ (r : List Cu) (w : Cu), Gaps D w r → Gaps (-netI (pre ++ [k])) w r := by
          intro r
          induction r with
          | nil => exact fun _ _ => trivial
          | cons v r ih => exact fun w h => ⟨by have := h.1; omega, ih v h.2⟩
        refine JB_sok (n := netI (pre ++ [k])) ?_ r w (gap r w hG) ?_ fun v hv => ?_
        · have e3 : runF' (pre ++ [k]) = (pre ++ [k]).foldl stepFar ⟨0, 0, [], []⟩ := rfl
          rw [e3, hnet]
          simp
        · have := (hR w (by simp)).2
          omega
        · have := hR v (by simp [hv])
          omega
    show pressS (stepS (JJ ((w :: r).map (·.at (runF' pre)))) k) ks = _
    rw [hst, ih, e0]
end Dl

/-! plain laws, part 8c: a course is run -/
namespace Dl
open PySem
open PySem.Spec
open PyProof.Rows
open L2
section
variable {st : Sto} {k : KS} {x : XS0}
end
end Dl

/-! plain laws, part 8f: runs of keys, and what a layout becomes -/
namespace Dl
open PySem
open PySem.Spec
open PyProof.Rows
open L2
section
variable {st : Sto} {k : KS} {x : XS0}
end
end Dl

/-! plain laws, part 8d: draws -/
namespace Dl
open PySem
open PySem.Spec
open PyProof.Rows
open L2
section
variable {st st0 : Sto} {k : KS} {x : XS0} {n m : Nat}
end
end Dl

/-! plain laws, part 8g: layouts after runs -/
namespace Dl
open PySem
open PySem.Spec
open PyProof.Rows
open L2
section
variable {st : Sto} {k : KS} {x : XS0}
end
end Dl

/-! plain laws, part 8h: what a far layout becomes -/
namespace Dl
open PySem
open PySem.Spec
open PyProof.Rows
open L2
theorem fm_live {ks : List Nat} : ∀ {gs : List Int}, (∀ g ∈ gs, 1 ≤ g) → gs.filterMap (live1 ks) = (gs.filter fun g => decide (dpR ks < g)).map fun g => g + netI ks
  | [], _ => rfl
  | g :: gs, h => by
    have ih := fm_live (ks := ks) (gs := gs) fun y hy => h y (by simp [hy])
    have hg := fst0_none ks g (h g (by simp))
    by_cases hd : dpR ks < g
    · have e : live1 ks g = some (g + netI ks) := by
        unfold live1
        rw [if_pos (hg.mpr hd)]
      rw [List.filterMap_cons, e, ih]
      simp [hd]
    · have e : live1 ks g = none := by
        unfold live1
        rw [if_neg (fun z => hd (hg.mp z))]
      rw [List.filterMap_cons, e, ih]
      simp [hd]
theorem loopF_nil {t : Tg} {wb : WS} {p : Post} {r : Env} : loopF t wb p [] r = p.nx r := rfl
theorem loopF_cons {t : Tg} {wb : WS} {p : Post} {r : Env} {d : D} {ds : List D} : loopF t wb p (d :: ds) r = asgT t d r fun r1 => wb r1 { p with nx := loopF t wb p ds, ct := loopF t wb p ds, bk := p.nx } := rfl
section
variable {st st0 : Sto} {k : KS} {x : XS0} {n m : Nat}
end
end Dl

/-! plain laws, part 51b: gaps of texts with far ends -/
namespace Dl
open PySem
open PySem.Spec
open PyProof.Rows
open L2
def lens (m : List (List Nat)) : List Int := m.map fun t => (t.length : Int)
def liv (k : Nat) (g : Int) : Option Int := if 1 ≤ g + netK k then some (g + netK k) else none
theorem typ_mid {k : Nat} : ∀ (m : List (List Nat)) (Z : List Nat), typeS k (m ++ [Z]) = (m.map fun t => t ++ [k]) ++ [Z]
  | [], Z => rfl
  | t :: m, Z => by
    have ih := typ_mid (k := k) m Z
    obtain ⟨u, q, e⟩ : ∃ u q, m ++ [Z] = u :: q := by cases m <;> exact ⟨_, _, rfl⟩
    rw [List.cons_append, e]
    show (t ++ [k]) :: typeS k (u :: q) = _
    rw [← e, ih]
    rfl
theorem bs_midL : ∀ (m : List (List Nat)) (Z : List Nat), bsM (m ++ [Z]) = (m.filterMap fun t => if t.dropLast = [] then none else some t.dropLast) ++ [Z]
  | [], Z => rfl
  | t :: m, Z => by
    have ih := bs_midL m Z
    obtain ⟨u, q, e⟩ : ∃ u q, m ++ [Z] = u :: q := by cases m <;> exact ⟨_, _, rfl⟩
    rw [List.cons_append, e]
    show (if t.dropLast = [] then bsM (u :: q) else t.dropLast :: bsM (u :: q)) = _
    rw [← e, ih, List.filterMap_cons]
    by_cases h : t.dropLast = []
    · simp [h]
    · simp [h]
theorem bs_lens : ∀ (m : List (List Nat)), (∀ t ∈ m, t ≠ []) → lens (m.filterMap fun t => if t.dropLast = [] then none else some t.dropLast) = (lens m).filterMap (fun g => if 1 ≤ g - 1 then some (g - 1) else none) ∧ ∀ t ∈ m.filterMap (fun t => if t.dropLast = [] then none else some t.dropLast), t ≠ []
  | [], _ => ⟨rfl, by simp⟩
  | t :: m, h => by
    obtain ⟨i1, i2⟩ := bs_lens m fun u hu => h u (by simp [hu])
    have ht : 0 < t.length := List.length_pos_iff.mpr (h t (by simp))
    by_cases e : t.dropLast = []
    · have hl : t.length = 1 := by
        have := congrArg List.length e
        rw [List.length_dropLast] at this
        simp at this
        omega
      constructor
      · rw [List.filterMap_cons, if_pos e]
        unfold lens at i1 ⊢
        rw [List.map_cons, List.filterMap_cons, if_neg (by omega)]
        exact i1
      · intro u hu
        rw [List.filterMap_cons, if_pos e] at hu
        exact i2 u hu
    · have hl : 2 ≤ t.length := by
        have := List.length_pos_iff.mpr e
        rw [List.length_dropLast] at this
        omega
      constructor
      · rw [List.filterMap_cons, if_neg e]
        unfold lens at i1 ⊢
        rw [List.map_cons, List.map_cons, List.filterMap_cons, if_pos (by omega), i1, List.length_dropLast]
        congr 1
        omega
      · intro u hu
        rw [List.filterMap_cons, if_neg e] at hu
        rcases List.mem_cons.mp hu with rfl | hu
        · exact e
        · exact i2 u hu
theorem mv_midL : ∀ (m : List (List Nat)) (Z p : List Nat), p.length = 1 → (∀ t ∈ m, t ≠ []) → ∃ m' Z', mvM p (m ++ [Z]) = m' ++ [Z'] ∧ lens m' = lens m ∧ Z'.length = Z.length + 1 ∧ ∀ t ∈ m', t ≠ []
  | [], Z, p, hp, _ => ⟨[], p ++ Z, rfl, rfl, by rw [List.length_append]; omega, by simp⟩
  | t :: m, Z, p, hp, h => by
    have ht : 0 < t.length := List.length_pos_iff.mpr (h t (by simp))
    have hne : p ++ t ≠ [] := fun e => by
      have := congrArg List.length e
      rw [List.length_append, List.length_nil] at this
      omega
    obtain ⟨m', Z', e1, e2, e3, e4⟩ := mv_midL m Z ((p ++ t).getLast?.toList) (by rw [List.getLast?_eq_getLast hne]; rfl) fun u hu => h u (by simp [hu])
    obtain ⟨u, q, e⟩ : ∃ u q, m ++ [Z] = u :: q := by cases m <;> exact ⟨_, _, rfl⟩
    have hd : (p ++ t).dropLast.length = t.length := by rw [List.length_dropLast, List.length_append]; omega
    have hdn : (p ++ t).dropLast ≠ [] := fun z => by rw [z, List.length_nil] at hd; omega
    refine ⟨(p ++ t).dropLast :: m', Z', ?_, ?_, e3, ?_⟩
    · rw [List.cons_append, e]
      show (if (p ++ t).dropLast = [] then mvM (p ++ t).getLast?.toList (u :: q) else (p ++ t).dropLast :: mvM (p ++ t).getLast?.toList (u :: q)) = _
      rw [if_neg hdn, ← e, e1]
      rfl
    · unfold lens at e2 ⊢
      rw [List.map_cons, List.map_cons, e2, hd]
    · intro v hv
      rcases List.mem_cons.mp hv with rfl | hv
      · exact hdn
      · exact e4 v hv
theorem liv_typ {k : Nat} (h : netK k = 1) : ∀ m : List (List Nat), lens (m.map fun t => t ++ [k]) = (lens m).filterMap (liv k)
  | [] => rfl
  | t :: m => by
    have ih := liv_typ h m
    unfold lens at ih ⊢
    rw [List.map_cons, List.map_cons, List.map_cons, List.filterMap_cons, ih]
    unfold liv
    rw [h, if_pos (by omega)]
    simp
theorem liv_zero {k : Nat} (h : netK k = 0) : ∀ m : List (List Nat), (∀ t ∈ m, t ≠ []) → (lens m).filterMap (liv k) = lens m
  | [], _ => rfl
  | t :: m, hm => by
    have ih := liv_zero h m fun u hu => hm u (by simp [hu])
    have ht : 0 < t.length := List.length_pos_iff.mpr (hm t (by simp))
    unfold lens at ih ⊢
    rw [List.map_cons, List.filterMap_cons]
    unfold liv at ih ⊢
    rw [h] at ih ⊢
    rw [if_pos (by omega), ih]
    simp
theorem rev_form (A : List Nat) (m : List (List Nat)) (Z : List Nat) : revS (A :: (m ++ [Z])) = Z.reverse :: ((m.map List.reverse).reverse ++ [A.reverse]) := by
  simp [revS]
theorem lens_rev (m : List (List Nat)) : lens ((m.map List.reverse).reverse) = (lens m).reverse := by
  unfold lens
  rw [List.map_reverse, List.map_map]
  congr 1
  exact List.map_congr_left fun t _ => by simp
theorem step_left {A Z : List Nat} {m : List (List Nat)} {k : Nat} (hk : k = 45 ∨ k = 60) (hm : ∀ t ∈ m, t ≠ []) (hA : 1 ≤ A.length) : ∃ A' m' Z', stepS (A :: (m ++ [Z])) k = A' :: (m' ++ [Z']) ∧ lens m' = (lens m).filterMap (liv k) ∧ A.length ≤ A'.length + 1 ∧ Z.length ≤ Z'.length + 1 ∧ ∀ t ∈ m', t ≠ [] := by
  obtain ⟨u, q, e⟩ : ∃ u q, m ++ [Z] = u :: q := by cases m <;> exact ⟨_, _, rfl⟩
  rcases hk with rfl | rfl
  · obtain ⟨b1, b2⟩ := bs_lens m hm
    refine ⟨A.dropLast, _, Z, ?_, b1, by rw [List.length_dropLast]; omega, by omega, b2⟩
    rw [← bs_midL, e]
    rfl
  · have hne : A ≠ [] := List.length_pos_iff.mp (by omega)
    obtain ⟨m', Z', e1, e2, e3, e4⟩ := mv_midL m Z A.getLast?.toList (by rw [List.getLast?_eq_getLast hne]; rfl) hm
    refine ⟨A.dropLast, m', Z', ?_, by rw [e2, liv_zero rfl m hm], by rw [List.length_dropLast]; omega, by omega, e4⟩
    rw [← e1, e]
    rfl
theorem step_mid {A Z : List Nat} {m : List (List Nat)} {k : Nat} (hm : ∀ t ∈ m, t ≠ []) (hA : 1 ≤ A.length) (hZ : 1 ≤ Z.length) : ∃ A' m' Z', stepS (A :: (m ++ [Z])) k = A' :: (m' ++ [Z']) ∧ lens m' = (lens m).filterMap (liv k) ∧ A.length ≤ A'.length + 1 ∧ Z.length ≤ Z'.length + 1 ∧ ∀ t ∈ m', t ≠ [] := by
  by_cases h1 : k = 45 ∨ k = 60
  · exact step_left h1 hm hA
  · by_cases h2 : k = 35 ∨ k = 62
    · obtain ⟨k', hk', e0, el⟩ : ∃ k', (k' = 45 ∨ k' = 60) ∧ (∀ ss, stepS ss k = revS (stepS (revS ss) k')) ∧ liv k = liv k' := by
        rcases h2 with rfl | rfl
        · exact ⟨45, .inl rfl, fun _ => rfl, rfl⟩
        · exact ⟨60, .inr rfl, fun _ => rfl, rfl⟩
      have hm' : ∀ t ∈ (m.map List.reverse).reverse, t ≠ [] := fun t ht => by
        obtain ⟨u, hu, rfl⟩ := List.mem_map.mp (List.mem_reverse.mp ht)
        simpa using hm u hu
      obtain ⟨A', m', Z', e1, e2, e3, e4, e5⟩ := step_left (A := Z.reverse) (Z := A.reverse) hk' hm' (by simpa using hZ)
      refine ⟨Z'.reverse, (m'.map List.reverse).reverse, A'.reverse, ?_, ?_, by simpa using e4, by simpa using e3, fun t ht => ?_⟩
      · rw [e0, rev_form, e1, rev_form]
      · rw [lens_rev, e2, lens_rev, el, List.filterMap_reverse, List.reverse_reverse]
      · obtain ⟨u, hu, rfl⟩ := List.mem_map.mp (List.mem_reverse.mp ht)
        simpa using e5 u hu
    · have hn : netK k = 1 := by
        unfold netK
        rw [if_neg (by omega), if_neg (by omega)]
      refine ⟨A ++ [k], m.map fun t => t ++ [k], Z, ?_, liv_typ hn m, by simp; omega, by omega, fun t ht => ?_⟩
      · unfold stepS
        rw [if_neg (by omega), if_neg (by omega), if_neg (by omega), if_neg (by omega)]
        exact typ_mid (A :: m) Z
      · obtain ⟨u, hu, rfl⟩ := List.mem_map.mp ht
        simp
theorem liv_live {k : Nat} {g : Int} (hg : 1 ≤ g) (ks : List Nat) : live1 (k :: ks) g = (liv k g).bind (live1 ks) := by
  have h := congrFun (live1_app [k] ks) g
  rw [List.singleton_append] at h
  rw [h]
  congr 1
  unfold live1 liv
  have e1 : netI [k] = netK k := by simp [netI]
  rw [e1]
  show (if (if g + netK k ≤ 0 then some 1 else (fst0 (g + netK k) []).map (· + 1)) = none then _ else _) = _
  by_cases h0 : g + netK k ≤ 0
  · rw [if_pos h0, if_neg (by simp), if_neg (by omega)]
  · rw [if_neg h0, if_pos (by simp [fst0]), if_pos (by omega)]
theorem fm_congr {α β : Type} {f g : α → Option β} : ∀ {l : List α}, (∀ x ∈ l, f x = g x) → l.filterMap f = l.filterMap g
  | [], _ => rfl
  | x :: l, h => by
    rw [List.filterMap_cons, List.filterMap_cons, h x (by simp), fm_congr fun y hy => h y (by simp [hy])]
theorem press_mid : ∀ (ks : List Nat) (A Z : List Nat) (m : List (List Nat)), (∀ t ∈ m, t ≠ []) → ks.length ≤ A.length → ks.length ≤ Z.length → ∃ A' m' Z', pressS (A :: (m ++ [Z])) ks = A' :: (m' ++ [Z']) ∧ lens m' = (lens m).filterMap (live1 ks)
  | [], A, Z, m, _, _, _ => ⟨A, m, Z, rfl, by
    have e : live1 [] = some := by
      funext g
      simp [live1, fst0, netI]
    rw [e]
    simp⟩
  | k :: ks, A, Z, m, hm, hA, hZ => by
    simp only [List.length_cons] at hA hZ
    obtain ⟨A1, m1, Z1, e1, e2, e3, e4, e5⟩ := step_mid (k := k) (A := A) (Z := Z) hm (by omega) (by omega)
    obtain ⟨A', m', Z', i1, i2⟩ := press_mid ks A1 Z1 m1 e5 (by omega) (by omega)
    refine ⟨A', m', Z', ?_, ?_⟩
    · show pressS (stepS (A :: (m ++ [Z])) k) ks = _
      rw [e1, i1]
    · rw [i2, e2, List.filterMap_filterMap]
      have : ∀ g ∈ lens m, 1 ≤ g := fun g hg => by
        obtain ⟨t, ht, rfl⟩ := List.mem_map.mp hg
        have := List.length_pos_iff.mpr (hm t ht)
        omega
      exact fm_congr fun g hg => (liv_live (this g hg) ks).symm
end Dl

/-! plain laws, part 8i: the law k08 -/
namespace Dl
open PySem
open PySem.Spec
open PyProof.Rows
open L2
section
variable {st st0 : Sto} {k : KS} {x : XS0} {n m : Nat}
theorem fit_ints8 {l : List Int} {N : Nat} (hl : l.length ≤ N) (hb : ∀ i ∈ l, i.natAbs < 10 ^ 60) : Fit 1 (N * 201) (.tuple (l.map .int)) := fit_tup (h := 0) (w := 200) (n := N) (fun d hd => by
  obtain ⟨i, hi, rfl⟩ := List.mem_map.mp hd
  exact fit_int (hb i hi)) (by simpa using hl)
theorem Dr.app (h : Dr n m st0 st) (l : Sto) : Dr n m (st0 ++ l) (st ++ l) := by
  obtain ⟨h1, b, hb, rfl⟩ := h
  exact ⟨by simp; omega, b, hb, by rw [List.set_append_left _ _ h1]⟩
theorem Dr.unapp {l st' : Sto} (h : Dr n m (st0 ++ l) st') (h1 : n < st0.length) : ∃ st1, st' = st1 ++ l ∧ Dr n m st0 st1 := by
  obtain ⟨_, b, hb, rfl⟩ := h
  exact ⟨st0.set n (some b), by rw [List.set_append_left _ _ h1], h1, b, hb, rfl⟩
theorem r_dep {ks : List Nat} {N : Nat} (hK : KeyRow N ks) (hN : N ≤ 1000) (h : k (.d (.int (dpR ks))) st) : F_depth_of [.d (.str (S ks))] st k x := by
  refine r_depth_good hK hN ?_
  rw [depth_dp]
  exact h
end
end Dl

/-! plain laws, part 14: what is touched -/
namespace Dl
open PySem
open PySem.Spec
open PyProof.Rows
open L2
section
variable {st st0 : Sto} {k : KS} {x : XS0} {n m : Nat}
end
end Dl

/-! plain laws, part 09: k09 -/
namespace Dl
open PySem
open PySem.Spec
open PyProof.Rows
open L2
section
variable {st st0 : Sto} {k : KS} {x : XS0} {n m : Nat}
end
end Dl

/-! plain laws, part 09b: all lists with up to three keys -/
namespace Dl
open PySem
open PySem.Spec
open PyProof.Rows
open L2
section
variable {st st0 : Sto} {k : KS} {x : XS0} {n m : Nat}
end
end Dl

/-! plain laws, part 09c: k09 -/
namespace Dl
open PySem
open PySem.Spec
open PyProof.Rows
open L2
section
variable {st st0 : Sto} {k : KS} {x : XS0} {n m : Nat}
end
end Dl

/-! plain laws, part 53b: capitals, bent lists, one cursor -/
namespace Dl
open PySem
open PySem.Spec
open PyProof.Rows
open L2
/-! ### one cursor -/
/-- the characters of a text, told by their places -/
def chW (w : List Nat) (b : Nat) (z : Int) : Nat := w.getD (z + b).toNat 0
theorem mk_phi {w : List Nat} {b : Nat} : ∀ (n : Nat) (a : Int), 0 ≤ a + b → (a + b).toNat + n ≤ w.length → (mk a n).map (phi (chW w b)) = (w.drop (a + b).toNat).take n
  | 0, a, _, _ => by simp [mk]
  | n + 1, a, h0, hn => by
    have ih := mk_phi (w := w) (b := b) n (a + 1) (by omega) (by omega)
    rw [mk_succ, List.map_cons, ih, List.drop_eq_getElem_cons (i := (a + b).toNat) (by omega), List.take_succ_cons, show (a + 1 + (b : Int)).toNat = (a + b).toNat + 1 by omega]
    congr 1
    show w.getD (a + b).toNat 0 = _
    rw [List.getD_eq_getElem?_getD, List.getElem?_eq_getElem (by omega)]
    rfl
section
variable {st st0 : Sto} {k : KS} {x : XS0} {n m : Nat}
end
end Dl

/-! plain laws, part 53c: texts of different letters tell lists apart -/
namespace Dl
open PySem
open PySem.Spec
open PyProof.Rows
open L2
section
variable {st st0 : Sto} {k : KS} {x : XS0} {n m : Nat}
end
end Dl

/-! plain laws, part 53e: cursors far from one another on a text -/
namespace Dl
open PySem
open PySem.Spec
open PyProof.Rows
open L2
def flatZ (zs : List Zn) : List Nat := (zs.map fun z => z.1 ++ z.2).flatten
def psum : Nat → List Zn → List Nat
  | _, [] => []
  | d, z :: r => (d + z.1.length) :: psum (d + z.1.length + z.2.length) r
theorem flat_JB : ∀ (r : List Zn) (B : List Nat), (JB B r).flatten = B ++ flatZ r
  | [], B => by simp [JB, flatZ]
  | z :: r, B => by
    rw [JB, List.flatten_cons, flat_JB r z.2]
    simp [flatZ]
theorem flat_JJ : ∀ zs : List Zn, (JJ zs).flatten = flatZ zs
  | [] => rfl
  | z :: r => by
    rw [JJ, List.flatten_cons, flat_JB]
    simp [flatZ]
theorem sums_JB : ∀ (r : List Zn) (B : List Nat) (d : Nat), sums d (JB B r) = psum (d + B.length) r
  | [], B, d => by simp [JB, sums, psum]
  | z :: r, B, d => by
    rw [JB, sums_cons _ _ (JB_ne _ _), sums_JB r z.2, psum, List.length_append]
    simp only [Nat.add_assoc]
theorem sums_JJ : ∀ zs : List Zn, sums 0 (JJ zs) = psum 0 zs
  | [] => rfl
  | z :: r => by
    rw [JJ, sums_cons _ _ (JB_ne _ _), sums_JB r z.2, psum]
theorem len_JB : ∀ (r : List Zn) (B : List Nat), (JB B r).length = r.length + 1
  | [], _ => rfl
  | z :: r, B => by rw [JB, List.length_cons, len_JB r, List.length_cons]
def cus (w : List Nat) (b : Nat) : Nat → List Nat → List Cu
  | _, [] => []
  | done, [p] => [⟨p - done, w.length - p, chW w p⟩]
  | done, p :: q :: r => ⟨p - done, b, chW w p⟩ :: cus w b (p + b) (q :: r)
/-- places that are far enough from one another -/
def SpOk (a b : Nat) (d : Int) : Nat → List Nat → Prop
  | _, [] => True
  | done, [p] => done + a ≤ p
  | done, p :: q :: r => done + a ≤ p ∧ d < (q : Int) - p ∧ SpOk a b d (p + b) (q :: r)
theorem SpOk.snoc {a b : Nat} {d : Int} {x : Nat} : ∀ (ps : List Nat) (done : Nat), SpOk a b d done ps → (ps = [] → done + a ≤ x) → (∀ y, ps.getLast? = some y → y + b + a ≤ x ∧ d < (x : Int) - y) → SpOk a b d done (ps ++ [x])
  | [], done, _, h, _ => h rfl
  | [p], done, h1, _, h3 => by
    have := h3 p rfl
    exact ⟨h1, this.2, by show p + b + a ≤ x; omega⟩
  | p :: q :: r, done, h1, _, h3 => by
    obtain ⟨k1, k2, k3⟩ := h1
    exact ⟨k1, k2, SpOk.snoc (q :: r) (p + b) k3 (by simp) fun y hy => h3 y (by rw [List.getLast?_cons_cons]; exact hy)⟩
theorem SpOk.head {a b : Nat} {d : Int} {done p : Nat} : ∀ {r : List Nat}, SpOk a b d done (p :: r) → done + a ≤ p
  | [], h => h
  | _ :: _, h => h.1
theorem SpOk.last {a b : Nat} {d : Int} : ∀ (ps : List Nat) (done : Nat), SpOk a b d done ps → ∀ y, ps.getLast? = some y → ∀ p ∈ ps, p ≤ y
  | [], _, _, y, h, p, hp => by cases hp
  | [q], _, _, y, h, p, hp => by
    simp at h hp
    omega
  | q :: r :: t, done, h1, y, h, p, hp => by
    obtain ⟨k1, k2, k3⟩ := h1
    rw [List.getLast?_cons_cons] at h
    have ih := SpOk.last (r :: t) _ k3 y h
    rcases List.mem_cons.mp hp with rfl | hp
    · have h1 := k3.head
      have := ih r (by simp)
      omega
    · exact ih p hp
theorem at_emb {w : List Nat} {p α β : Nat} {f : Far} (h1 : α ≤ p) (h2 : p + β ≤ w.length) (ha : f.a ≤ α) (hb : f.b ≤ β) :
    (⟨α, β, chW w p⟩ : Cu).at f = ((w.drop (p - α)).take (α - f.a) ++ f.l.map (phi (chW w p)), f.r.map (phi (chW w p)) ++ (w.drop (p + f.b)).take (β - f.b)) := by
  unfold Cu.at zmap embG
  dsimp only
  rw [List.map_append, List.map_append, mk_phi _ _ (by omega) (by omega), mk_phi _ _ (by omega) (by omega)]
  have e1 : (-(α : Int) + p).toNat = p - α := by omega
  have e2 : ((f.b : Int) + p).toNat = p + f.b := by omega
  rw [e1, e2]
theorem flat_start {w : List Nat} {a b : Nat} {d : Int} : ∀ (ps : List Nat) (done : Nat), ps ≠ [] → SpOk a b d done ps → (∀ p ∈ ps, p + b ≤ w.length) →
    flatZ ((cus w b done ps).map (·.at ⟨0, 0, [], []⟩)) = w.drop done ∧ psum done ((cus w b done ps).map (·.at ⟨0, 0, [], []⟩)) = ps
  | [], _, h, _, _ => absurd rfl h
  | [p], done, _, h1, h2 => by
    have hp := h2 p (by simp)
    have hd : done ≤ p := by have : done + a ≤ p := h1; omega
    have e := at_emb (w := w) (p := p) (α := p - done) (β := w.length - p) (f := ⟨0, 0, [], []⟩) (by omega) (by omega) (by simp) (by simp)
    show flatZ [(⟨p - done, w.length - p, chW w p⟩ : Cu).at ⟨0, 0, [], []⟩] = _ ∧ psum done [(⟨p - done, w.length - p, chW w p⟩ : Cu).at ⟨0, 0, [], []⟩] = _
    rw [e]
    have e1 : p - (p - done) = done := by omega
    simp only [flatZ, psum, List.map_cons, List.map_nil, List.flatten_cons, List.flatten_nil, List.append_nil, List.nil_append, Nat.sub_zero, Nat.add_zero, e1]
    constructor
    · rw [List.take_of_length_le (l := w.drop p) (by simp)]
      have := List.take_append_drop (p - done) (w.drop done)
      rw [List.drop_drop, show done + (p - done) = p by omega] at this
      exact this
    · simp
      omega
  | p :: q :: r, done, _, h1, h2 => by
    obtain ⟨k1, k2, k3⟩ := h1
    have hp := h2 p (by simp)
    have hq := k3.head
    obtain ⟨i1, i2⟩ := flat_start (q :: r) (p + b) (by simp) k3 fun y hy => h2 y (by simp at hy ⊢; right; exact hy)
    have e := at_emb (w := w) (p := p) (α := p - done) (β := b) (f := ⟨0, 0, [], []⟩) (by omega) (by omega) (by simp) (by simp)
    rw [cus, List.map_cons]
    have ef : ∀ z (zs : List Zn), flatZ (z :: zs) = z.1 ++ z.2 ++ flatZ zs := fun z zs => by simp [flatZ]
    rw [ef, psum, e]
    have e1 : p - (p - done) = done := by omega
    simp only [List.map_nil, List.append_nil, List.nil_append, Nat.sub_zero, Nat.add_zero, e1]
    rw [i1]
    have l1 : ((w.drop done).take (p - done)).length = p - done := by simp; omega
    have l2 : ((w.drop p).take b).length = b := by simp; omega
    rw [l1, l2, show done + (p - done) = p by omega, i2]
    refine ⟨?_, rfl⟩
    have t1 := List.take_append_drop (p - done) (w.drop done)
    rw [List.drop_drop, show done + (p - done) = p by omega] at t1
    have t2 := List.take_append_drop b (w.drop p)
    rw [List.drop_drop] at t2
    rw [List.append_assoc, t2, t1]
def flF (f : Far) (w : List Nat) : Nat → List Nat → List Nat
  | done, [] => w.drop done
  | done, p :: r => (w.drop done).take (p - f.a - done) ++ (f.l ++ f.r).map (phi (chW w p)) ++ flF f w (p + f.b) r
def plF (f : Far) : Nat → Nat → List Nat → List Nat
  | _, _, [] => []
  | d, done, p :: r => (d + (p - f.a - done) + f.l.length) :: plF f (d + (p - f.a - done) + (f.l ++ f.r).length) (p + f.b) r
theorem flat_after {w : List Nat} {f : Far} {d : Int} : ∀ (ps : List Nat) (done n : Nat), ps ≠ [] → SpOk f.a f.b d done ps → (∀ p ∈ ps, p + f.b ≤ w.length) →
    flatZ ((cus w f.b done ps).map (·.at f)) = flF f w done ps ∧ psum n ((cus w f.b done ps).map (·.at f)) = plF f n done ps
  | [], _, _, h, _, _ => absurd rfl h
  | [p], done, n, _, h1, h2 => by
    have hp := h2 p (by simp)
    have hd : done + f.a ≤ p := h1
    have e := at_emb (w := w) (p := p) (α := p - done) (β := w.length - p) (f := f) (by omega) (by omega) (by omega) (by omega)
    show flatZ [(⟨p - done, w.length - p, chW w p⟩ : Cu).at f] = _ ∧ psum n [(⟨p - done, w.length - p, chW w p⟩ : Cu).at f] = _
    rw [e]
    have e1 : p - (p - done) = done := by omega
    have e2 : p - done - f.a = p - f.a - done := by omega
    simp only [flatZ, psum, List.map_cons, List.map_nil, List.flatten_cons, List.flatten_nil, List.append_nil, e1, e2, flF, plF]
    constructor
    · rw [List.take_of_length_le (l := w.drop (p + f.b)) (by simp; omega)]
      simp
    · simp
      omega
  | p :: q :: r, done, n, _, h1, h2 => by
    obtain ⟨k1, k2, k3⟩ := h1
    have hp := h2 p (by simp)
    have hq := k3.head
    have e := at_emb (w := w) (p := p) (α := p - done) (β := f.b) (f := f) (by omega) (by omega) (by omega) (by omega)
    rw [cus, List.map_cons]
    have ef : ∀ z (zs : List Zn), flatZ (z :: zs) = z.1 ++ z.2 ++ flatZ zs := fun z zs => by simp [flatZ]
    rw [ef, psum, e, flF, plF]
    have e1 : p - (p - done) = done := by omega
    have e2 : p - done - f.a = p - f.a - done := by omega
    simp only [Nat.sub_self, List.take_zero, List.append_nil, e1, e2]
    have l1 : ((w.drop done).take (p - f.a - done)).length = p - f.a - done := by simp; omega
    obtain ⟨i1, i2⟩ := flat_after (q :: r) (p + f.b) (n + (p - f.a - done) + (f.l ++ f.r).length) (by simp) k3 fun y hy => h2 y (by simp at hy ⊢; right; exact hy)
    refine ⟨?_, ?_⟩
    · rw [i1]
      simp
    · rw [← i2]
      simp only [List.length_append, l1, List.length_map]
      congr 1
      · omega
      · congr 1
        omega
theorem cus_ab {w : List Nat} {a b : Nat} {d : Int} : ∀ (ps : List Nat) (done : Nat), SpOk a b d done ps → (∀ p ∈ ps, p + b ≤ w.length) → ∀ v ∈ cus w b done ps, a ≤ v.α ∧ b ≤ v.β
  | [], _, _, _, v, hv => by cases hv
  | [p], done, h1, h2, v, hv => by
    have hp := h2 p (by simp)
    have hd : done + a ≤ p := h1
    rw [List.mem_singleton.mp hv]
    dsimp only
    omega
  | p :: q :: r, done, h1, h2, v, hv => by
    obtain ⟨k1, k2, k3⟩ := h1
    rcases List.mem_cons.mp hv with rfl | hv
    · dsimp only
      omega
    · exact cus_ab (q :: r) (p + b) k3 (fun y hy => h2 y (by simp at hy ⊢; right; exact hy)) v hv
theorem cus_len {w : List Nat} {b : Nat} : ∀ (ps : List Nat) (done : Nat), (cus w b done ps).length = ps.length
  | [], _ => rfl
  | [p], _ => rfl
  | p :: q :: r, _ => by
    rw [cus, List.length_cons, cus_len (q :: r)]
    rfl
def GapsL (d : Int) : List Cu → Prop
  | [] => True
  | w :: r => Gaps d w r
theorem cus_head {w : List Nat} {b q done : Nat} : ∀ (r : List Nat), ∃ v t, cus w b done (q :: r) = v :: t ∧ v.α = q - done
  | [] => ⟨_, _, rfl, rfl⟩
  | _ :: _ => ⟨_, _, rfl, rfl⟩
theorem cus_gaps {w : List Nat} {a b : Nat} {d : Int} : ∀ (ps : List Nat) (done : Nat), SpOk a b d done ps → GapsL d (cus w b done ps)
  | [], _, _ => trivial
  | [p], done, h1 => trivial
  | p :: q :: r, done, h1 => by
    obtain ⟨k1, k2, k3⟩ := h1
    have ih := cus_gaps (w := w) (q :: r) (p + b) k3
    have hq := k3.head
    obtain ⟨v, t, e, hv⟩ := cus_head (w := w) (b := b) (q := q) (done := p + b) r
    rw [cus]
    rw [e] at ih ⊢
    exact ⟨by dsimp only; omega, ih⟩
theorem Gaps.low {d d' : Int} (h : d' ≤ d) : ∀ (r : List Cu) (w : Cu), Gaps d w r → Gaps d' w r
  | [], _, _ => trivial
  | v :: r, w, g => ⟨by have := g.1; omega, Gaps.low h r v g.2⟩
/-- CURSORS FAR FROM ONE ANOTHER ON A TEXT -/
theorem far_press {w ks ps : List Nat} (hne : ps ≠ []) (hs : SpOk (runF' ks).a (runF' ks).b (dpR ks) 0 ps) (hp : ∀ p ∈ ps, p + (runF' ks).b ≤ w.length) :
    ∃ ss, SOk ss ∧ ss.length = ps.length + 1 ∧ ss.flatten = w ∧ sums 0 ss = ps ∧ (pressS ss ks).flatten = flF (runF' ks) w 0 ps ∧ sums 0 (pressS ss ks) = plF (runF' ks) 0 0 ps := by
  obtain ⟨f1, f2⟩ := flat_start (w := w) ps 0 hne hs hp
  obtain ⟨g1, g2⟩ := flat_after (w := w) (f := runF' ks) ps 0 0 hne hs hp
  have hab := cus_ab (w := w) ps 0 hs hp
  have hga := cus_gaps (w := w) ps 0 hs
  have hl := cus_len (w := w) (b := (runF' ks).b) ps 0
  obtain ⟨c, r, hc⟩ : ∃ c r, cus w (runF' ks).b 0 ps = c :: r := by
    cases e : cus w (runF' ks).b 0 ps with
    | nil =>
      rw [e] at hl
      exact absurd (List.length_eq_zero_iff.mp hl.symm) hne
    | cons c r => exact ⟨c, r, rfl⟩
  rw [hc] at f1 f2 g1 g2 hab hga hl
  have hact := act_alone c r (dpR ks) ks [] hab hga (Int.le_refl _)
  have e0 : runF' [] = ⟨0, 0, [], []⟩ := rfl
  rw [e0, List.nil_append] at hact
  refine ⟨JJ ((c :: r).map (·.at ⟨0, 0, [], []⟩)), ?_, ?_, ?_, ?_, ?_, ?_⟩
  · rw [List.map_cons, JJ]
    obtain ⟨t, q, e⟩ := JB_cons (c.at ⟨0, 0, [], []⟩).2 (r.map (·.at ⟨0, 0, [], []⟩))
    rw [e]
    refine sok_of ?_
    rw [← e]
    have hd := dpR_nonneg ks
    exact JB_sok (f := ⟨0, 0, [], []⟩) (n := 0) (by simp) r c (Gaps.low (by omega) r c hga) (Nat.zero_le _) fun v _ => ⟨Nat.zero_le _, Nat.zero_le _⟩
  · rw [List.map_cons, JJ, List.length_cons, len_JB, List.length_map]
    simp only [List.length_cons] at hl
    omega
  · rw [flat_JJ, f1]
    rfl
  · rw [sums_JJ, f2]
  · rw [hact, flat_JJ, g1]
  · rw [hact, sums_JJ, g2]
end Dl

/-! plain laws, part 33a: the keys of a task -/
namespace Dl
open PySem
open PySem.Spec
open PyProof.Rows
open L2
@[simp ↓] theorem e_rng3 {i j : Int} {k : List D → Prop} : rng3 [.int i, .int j, .int (-1)] k = ((-(2 ^ 62) ≤ i ∧ i < 2 ^ 62 ∧ -(2 ^ 62) ≤ j ∧ j < 2 ^ 62) ∧ k (intRC i (-1) (i - j).toNat)) := propext ⟨fun h => h.2, fun h => ⟨rfl, h⟩⟩
/-- a task: the start, the goal, the gaps, the words, the bounds -/
structure Tk where
  s : Nat
  g : Nat
  gl : List Int
  gr : List Int
  tl : List (List Nat)
  tr : List (List Nat)
  lo : Nat
  hi : Nat
def Tk.A (T : Tk) (i : Nat) : Int := T.gl.getD i 0
def Tk.B (T : Tk) (i : Nat) : Int := T.gr.getD i 0
def Tk.L (T : Tk) (i : Nat) : List Nat := T.tl.getD i []
def Tk.R (T : Tk) (i : Nat) : List Nat := T.tr.getD i []
def Tk.a (T : Tk) (i : Nat) : Nat := (T.A i).toNat
def Tk.b (T : Tk) (i : Nat) : Nat := (T.B i).toNat
def Tk.w (T : Tk) (i : Nat) : List Nat := T.L i ++ T.R i
structure Tk.Ok (T : Tk) (N : Nat) : Prop where
  n : N ≤ 201
  gl : T.gl.length = N
  gr : T.gr.length = N
  tl : T.tl.length = N
  tr : T.tr.length = N
  gp : ∀ z, z ∈ T.gl ∨ z ∈ T.gr → 0 ≤ z ∧ z ≤ 300
  wd : ∀ w, w ∈ T.tl ∨ w ∈ T.tr → w.length ≤ 300
  ls : T.lo ≤ T.s
  lg : T.lo ≤ T.g
  sh : T.s ≤ T.hi
  gh : T.g ≤ T.hi
  hN : T.hi < N
namespace Tk
variable {T : Tk} {N : Nat}
theorem Ok.gra (o : T.Ok N) {i : Nat} (h : i < N) : atI (intsOf T.gr) (i : Int) = some (.int (T.B i)) ∧ 0 ≤ T.B i ∧ T.B i ≤ 300 := by
  have h1 : i < T.gr.length := by rw [o.gr]; exact h
  have e : T.B i = T.gr[i] := by simp [Tk.A, Tk.B, Tk.L, Tk.R, List.getD, h1]
  refine ⟨?_, ?_⟩
  · rw [atI_cast, intsOf, List.getElem?_map, List.getElem?_eq_getElem h1, e]
    rfl
  · rw [e]
    exact o.gp _ (.inr (List.getElem_mem _))
theorem Ok.tla (o : T.Ok N) {i : Nat} (h : i < N) : T.tl[i]? = some (T.L i) ∧ (T.L i).length ≤ 300 := by
  have h1 : i < T.tl.length := by rw [o.tl]; exact h
  have e : T.L i = T.tl[i] := by simp [Tk.A, Tk.B, Tk.L, Tk.R, List.getD, h1]
  rw [e]
  exact ⟨List.getElem?_eq_getElem h1, o.wd _ (.inl (List.getElem_mem _))⟩
theorem Ok.tra (o : T.Ok N) {i : Nat} (h : i < N) : T.tr[i]? = some (T.R i) ∧ (T.R i).length ≤ 300 := by
  have h1 : i < T.tr.length := by rw [o.tr]; exact h
  have e : T.R i = T.tr[i] := by simp [Tk.A, Tk.B, Tk.L, Tk.R, List.getD, h1]
  rw [e]
  exact ⟨List.getElem?_eq_getElem h1, o.wd _ (.inr (List.getElem_mem _))⟩
theorem Ok.wl (o : T.Ok N) {i : Nat} (h : i < N) : (T.w i).length ≤ 600 := by
  unfold Tk.w
  rw [List.length_append]
  have := (o.tla h).2
  have := (o.tra h).2
  omega
theorem Ok.bl (o : T.Ok N) {i : Nat} (h : i < N) : T.b i ≤ 300 := by
  have := (o.gra h).2
  unfold Tk.b
  omega
end Tk
section
variable {st : Sto} {k : KS} {x : XS0} {T : Tk} {N : Nat}
end
end Dl

/-! plain laws, part 33b: shortest_keys -/
namespace Dl
open PySem
open PySem.Spec
open PyProof.Rows
open L2
@[simp ↓] theorem e_raiseF {cn f : Str} {we : WE} {sl : List (Option R)} {st : Sto} {p : Post} : wRaiseF cn f we ⟨sl, st⟩ p = we ⟨sl, st⟩ (fun y r1 => rfK cn f p.ex y r1) p.ex := Eq.trans rfl rfl
@[simp ↓] theorem e_rfK {cn f : Str} {x : XQ} {d : D} {r : Env} : rfK cn f x (.d d) r = x ⟨cn, [(f, d)]⟩ r := Eq.trans rfl rfl
section
variable {st : Sto} {k : KS} {x : XS0}
end
end Dl

/-! plain laws, part 33c: what is raised -/
namespace Dl
open PySem
open PySem.Spec
open PyProof.Rows
open L2
@[simp ↓] theorem e_tryF {cs : List Str} {i j : Nat} {wb : WS} {sl : List (Option R)} {st : Sto} {p : Post} : wTryF cs i j wb ⟨sl, st⟩ p = wb ⟨sl, st⟩ { p with ex := fun e r' => e.cn ∈ cs ∧ p.nx ⟨(r'.sl.set i none).set j (some (.o (.exc e))), r'.st⟩ } := Eq.trans rfl rfl
@[simp ↓] theorem e_xf {cn f : Str} {we : WE} {sl : List (Option R)} {st : Sto} {k : KE} {x : XQ} : wXF cn f we ⟨sl, st⟩ k x = we ⟨sl, st⟩ (fun y r1 => ∃ d, y = .o (.exc ⟨cn, [(f, d)]⟩) ∧ k (.d d) r1) x := Eq.trans rfl rfl
@[irreducible] def lcZ (t : Tg) (wt : WT) (we : WE) (vs : List Nat) (ds : List D) (r : Env) (k : List D → Env → Prop) : Prop := lcR t wt we vs ds r k
section
variable {st st0 : Sto} {k : KS} {x : XS0} {n m : Nat}
end
end Dl

/-! plain laws, part 33c: what is asked -/
namespace Dl
open PySem
open PySem.Spec
open PyProof.Rows
open L2
section
variable {st st0 : Sto} {k : KS} {x : XS0} {n m : Nat}
theorem far_eff {ks : List Nat} {N : Nat} (hK : KeyRow N ks) (hN : N ≤ 60) : Eff (runF' ks).a (runF' ks).b ((runF' ks).l ++ (runF' ks).r) (runF' ks).l.length ∧ ((runF' ks).l ++ (runF' ks).r).length ≤ 200 := by
  have h1 := hK.1
  have hkk : ∀ c ∈ ks, c < 0x110000 := fun c hc => key_small (hK.2 c hc)
  have o := run_ok0 (ks := ks) (by omega) hkk
  have q := q_run ks ⟨0, 0, [], []⟩ hK.2 ⟨by simp, by simp, by simp⟩
  have oa := o.a
  have ob := o.b
  have ol := o.ln
  have e : runF' ks = ks.foldl stepFar ⟨0, 0, [], []⟩ := rfl
  rw [← e] at q
  generalize runF' ks = f at *
  have e2 : effB (.tuple [.int f.a, .int f.b, .tuple ((f.l ++ f.r).map itD), .int f.l.length]) = true := by
    rw [effB_eq (by omega) (by omega), q_items q]
    simp [numB2]
    omega
  obtain ⟨q', e3, e4⟩ := eff_iff.mp e2
  have : q' = f.l.length := by omega
  rw [this] at e4
  exact ⟨e4, by simp; omega⟩
end
end Dl

set_option pp.maxSteps 400
/-! plain laws, part 33d: values that are no effects -/
namespace Dl
open PySem
open PySem.Spec
open PyProof.Rows
open L2
section
variable {st st0 : Sto} {k : KS} {x : XS0} {n m : Nat}
end
end Dl

/-! plain laws, part 31b: shortest lists played -/
namespace Dl
open PySem
open PySem.Spec
open PyProof.Rows
open L2
section
variable {K : Nat → Itm} {N : Nat}
variable {T : Tk} {rl rr : Nat → List Itm} {X Y : List Itm}
end
end Dl

/-! plain laws, part 31c: shortest lists played, the goal left of the start -/
namespace Dl
open PySem
open PySem.Spec
open PyProof.Rows
open L2
section
variable {K : Nat → Itm} {N : Nat} {T : Tk} {rl rr : Nat → List Itm} {X Y : List Itm}
end
end Dl

/-! plain laws, part 31d: the shortest list has the effect -/
namespace Dl
open PySem
open PySem.Spec
open PyProof.Rows
open L2
end Dl

/-! plain laws, part 31e: the shortest list has the effect, the end -/
namespace Dl
open PySem
open PySem.Spec
open PyProof.Rows
open L2
variable {L M : Int} {its : List Itm} {p : Nat}
theorem marks_bd (e : Eff L M its p) : ∀ z ∈ marks its, -L ≤ z ∧ z < M := fun z hz => by
  obtain ⟨h1, h2⟩ := List.pairwise_cons.mp e.asc
  have g1 := h1 z (by simp [hz])
  have g2 := (List.pairwise_append.mp h2).2.2 z hz M (by simp)
  omega
end Dl

/-! plain laws, part 53f: the walk of _law_cursors_right -/
namespace Dl
open PySem
open PySem.Spec
open PyProof.Rows
open L2
section
variable {st st0 : Sto} {k : KS} {x : XS0} {n m : Nat}
theorem sums_topA : ∀ (ss : List (List Nat)) (a : Nat), ∀ c ∈ sums a ss, c ≤ a + ss.flatten.length
  | [], a, c, h => by simp [sums] at h
  | [s], a, c, h => by simp [sums] at h
  | s :: t :: r, a, c, h => by
    rw [sums_cons _ _ (by simp)] at h
    rcases List.mem_cons.mp h with rfl | h
    · rw [List.flatten_cons, List.length_append]
      omega
    · have := sums_topA (t :: r) (a + s.length) c h
      rw [List.flatten_cons (l := s), List.length_append]
      omega
theorem cut_a {w : List Nat} {done p a : Nat} (h1 : done + a ≤ p) (h2 : p ≤ w.length) : cut w (some (done : Int)) (some ((p : Int) - a)) = (w.drop done).take (p - a - done) := by
  rw [show (p : Int) - a = ((p - a : Nat) : Int) by omega, cut_nat, Nat.min_eq_left (by omega), Nat.min_eq_left (by omega)]
theorem mem_marks {z : Int} : ∀ l : List Itm, .m z ∈ l → z ∈ marks l
  | x :: t, h => by
    rcases List.mem_cons.mp h with rfl | h2
    · show z ∈ z :: marks t
      simp
    · cases x with
      | m v =>
        show z ∈ v :: marks t
        exact List.mem_cons_of_mem _ (mem_marks t h2)
      | c _ => exact mem_marks t h2
end
end Dl

/-! plain laws, part 51c: texts drawn with a layout -/
namespace Dl
open PySem
open PySem.Spec
open PyProof.Rows
open L2
def gapsZ (cs : List Nat) : List Int := (cs.zip (cs.drop 1)).map fun p => (p.2 : Int) - p.1
theorem gaps_cons (c d : Nat) (r : List Nat) : gapsZ (c :: d :: r) = ((d : Int) - c) :: gapsZ (d :: r) := rfl
theorem gaps_mid : ∀ (m : List (List Nat)) (Z : List Nat) (d : Nat), gapsZ (d :: sums d (m ++ [Z])) = lens m
  | [], Z, d => rfl
  | t :: m, Z, d => by
    rw [List.cons_append, sums_cons _ _ (by simp), gaps_cons, gaps_mid m Z]
    unfold lens
    rw [List.map_cons]
    congr 1
    omega
theorem gaps_form (A : List Nat) (m : List (List Nat)) (Z : List Nat) : gapsZ (sums 0 (A :: (m ++ [Z]))) = lens m := by
  rw [sums_cons _ _ (by simp)]
  exact gaps_mid m Z _
/-- the cursors of a layout -/
def spS : Nat → List Nat → List Nat
  | x, [] => [x]
  | x, g :: gs => x :: spS (x + g) gs
theorem spS_ne (x : Nat) (gs : List Nat) : spS x gs ≠ [] := by cases gs <;> simp [spS]
theorem spS_head (x : Nat) (gs : List Nat) : ∃ r, spS x gs = x :: r := by cases gs <;> exact ⟨_, rfl⟩
theorem spS_len : ∀ (gs : List Nat) (x : Nat), (spS x gs).length = gs.length + 1
  | [], _ => rfl
  | g :: gs, x => by rw [spS, List.length_cons, spS_len gs, List.length_cons]
theorem spS_last : ∀ (gs : List Nat) (x : Nat), (spS x gs).getLast? = some (x + gs.sum)
  | [], x => by simp [spS]
  | g :: gs, x => by
    obtain ⟨r, e⟩ := spS_head (x + g) gs
    rw [spS, e, List.getLast?_cons_cons, ← e, spS_last gs, List.sum_cons]
    congr 1
    omega
theorem spS_snoc : ∀ (gs : List Nat) (x g : Nat), spS x (gs ++ [g]) = spS x gs ++ [x + gs.sum + g]
  | [], x, g => by simp [spS]
  | h :: gs, x, g => by
    rw [List.cons_append, spS, spS_snoc gs, spS, List.sum_cons]
    simp [Nat.add_assoc]
theorem spS_ok {a b : Nat} {d : Int} : ∀ (gs : List Nat) (done x : Nat), done + a ≤ x → (∀ g ∈ gs, a + b ≤ g ∧ d < (g : Int)) → SpOk a b d done (spS x gs)
  | [], done, x, h, _ => h
  | g :: gs, done, x, h, hg => by
    have h1 := hg g (by simp)
    have ih := spS_ok (a := a) (b := b) (d := d) gs (x + b) (x + g) (by omega) fun y hy => hg y (by simp [hy])
    obtain ⟨r, e⟩ := spS_head (x + g) gs
    rw [spS, e]
    rw [e] at ih
    exact ⟨h, by omega, ih⟩
theorem spS_le : ∀ (gs : List Nat) (x : Nat), ∀ p ∈ spS x gs, p ≤ x + gs.sum
  | [], x, p, hp => by
    rw [List.mem_singleton.mp hp]
    simp
  | g :: gs, x, p, hp => by
    rcases List.mem_cons.mp hp with rfl | hp
    · omega
    · have := spS_le gs (x + g) p hp
      rw [List.sum_cons]
      omega
def cutG (w : List Nat) : Nat → List Nat → List (List Nat)
  | _, [] => []
  | x, g :: gs => (w.drop x).take g :: cutG w (x + g) gs
theorem cutG_ok {w : List Nat} : ∀ (gs : List Nat) (x : Nat), x + gs.sum ≤ w.length → (∀ g ∈ gs, 1 ≤ g) → (cutG w x gs ++ [w.drop (x + gs.sum)]).flatten = w.drop x ∧ x :: sums x (cutG w x gs ++ [w.drop (x + gs.sum)]) = spS x gs ∧ lens (cutG w x gs) = gs.map (fun g : Nat => (g : Int)) ∧ (∀ t ∈ cutG w x gs, t ≠ []) ∧ (cutG w x gs).length = gs.length
  | [], x, _, _ => by simp [cutG, sums, spS, lens]
  | g :: gs, x, h, hg => by
    rw [List.sum_cons] at h
    have h1 := hg g (by simp)
    obtain ⟨i1, i2, i3, i4, i5⟩ := cutG_ok (w := w) gs (x + g) (by omega) fun y hy => hg y (by simp [hy])
    have hl : ((w.drop x).take g).length = g := by simp; omega
    have e : x + (g :: gs).sum = x + g + gs.sum := by rw [List.sum_cons]; omega
    rw [e]
    refine ⟨?_, ?_, ?_, ?_, by rw [cutG, List.length_cons, i5, List.length_cons]⟩
    · rw [cutG, List.cons_append, List.flatten_cons, i1]
      have := List.take_append_drop g (w.drop x)
      rw [List.drop_drop] at this
      exact this
    · rw [cutG, List.cons_append, sums_cons _ _ (by simp), hl, i2]
      rfl
    · rw [cutG]
      unfold lens at i3 ⊢
      rw [List.map_cons, i3, hl, List.map_cons]
    · intro t ht
      rw [cutG] at ht
      rcases List.mem_cons.mp ht with rfl | ht
      · intro z
        rw [z] at hl
        simp at hl
        omega
      · exact i4 t ht
section
variable {st st0 : Sto} {k : KS} {x : XS0} {n m : Nat}
theorem r_layout_of1 {ss : List (List Nat)} {a b : Nat} (h : StB a b ss) (ha : a ≤ 900000) (hb : b ≤ 900) (hK : ∀ c0 c1 : Nat, (sums 0 ss)[0]? = some c0 → (sums 0 ss).getLast? = some c1 → k (.d (.tuple [.int (c0 : Int), .tuple ((gapsZ (sums 0 ss)).map .int), .int ((ss.flatten.length : Int) - c1)])) st) : F_layout_of [.d (.str (S ss.flatten)), .d (.tuple (natsD (sums 0 ss)))] st k x := by
  have hfl := h.fl
  have hnb := h.nb
  have hsl := sums_len ss 0
  have hA := h.ok.asc
  have hne := h.ok.ne
  have hlt := h.lt
  generalize ss.flatten = T at *
  generalize sums 0 ss = C at *
  simp [F_layout_of, e_run, w_layout_of]
  refine r_check_text (by omega) hlt ?_
  try simp
  refine r_check_cursors (by omega) (by omega) hne hA ?_
  simp [cut_fr1]
  have ez : pairs (natsD C) (natsD C).tail = (C.zip (C.drop 1)).map fun p => PyData.tuple [.int p.1, .int p.2] := by
    have e1 : (natsD C).tail = (C.drop 1).map fun (i : Nat) => PyData.int i := by simp [natsD]
    rw [e1]
    exact pairs_mapP _ _ C (C.drop 1)
  rw [ez]
  refine lcP (α := Nat × Nat) (l := C.zip (C.drop 1)) (fun p => .int p.1) (fun p => .int p.2) (fun _ => true) (fun p => .int ((p.2 : Int) - p.1)) rfl (by decide) (fun p _ K X hK => by simpa using hK) (fun p hp _ K X hK => by simpa using hK) (by rw [sizeLine_eq, List.length_zip]; simp; omega) ?_ (by
    intro v hv _
    simp at hv
    rcases hv with rfl | rfl <;> rfl)
  rw [List.filter_eq_self.mpr (fun _ _ => rfl)]
  have eg : ((C.zip (C.drop 1)).map fun p => PyData.int ((p.2 : Int) - p.1)) = (gapsZ C).map PyData.int := by
    unfold gapsZ
    rw [List.map_map]
    rfl
  rw [eg]
  obtain ⟨c0, hc0⟩ : ∃ c, C[0]? = some c := by
    cases C with
    | nil => exact absurd rfl hne
    | cons c r => exact ⟨c, rfl⟩
  obtain ⟨c1, hc1⟩ : ∃ c, C.getLast? = some c := ⟨_, List.getLast?_eq_getLast hne⟩
  simp
  have x0 : atI (natsD C) 0 = some (.int (c0 : Int)) := by
    have := atI_nat (l := natsD C) (n := 0)
    rw [show ((0 : Nat) : Int) = 0 from rfl] at this
    rw [this, natsD, List.getElem?_map, hc0]
    rfl
  have x1 : atI (natsD C) (-1) = some (.int (c1 : Int)) := by
    rw [atI_last, natsD, List.getLast?_map, hc1]
    rfl
  rw [g_ixTs x0]
  simp [g_lenS, sizeLine_eq]
  refine ⟨by omega, ?_⟩
  rw [g_ixTs x1]
  simp
  exact hK _ _ hc0 hc1
theorem r_layout_of {ss : List (List Nat)} {a b : Nat} (h : StB a b ss) (ha : a ≤ 900000) (hb : b ≤ 900) (hK : ∀ f e : Int, k (.d (.tuple [.int f, .tuple ((gapsZ (sums 0 ss)).map .int), .int e])) st) : F_layout_of [.d (.str (S ss.flatten)), .d (.tuple (natsD (sums 0 ss)))] st k x :=
  r_layout_of1 h ha hb fun c0 c1 _ _ => hK _ _
def lettersK : List Nat := [65, 66, 67, 68, 69, 70, 71, 72, 73, 74, 75, 76, 77, 78, 79, 80, 81, 82, 83, 84, 85, 86, 87, 88, 89, 90, 97, 98, 99]
theorem lettersK_ok : ∀ c ∈ lettersK, c ∈ low ++ upp := by decide
theorem r_law_letters {N : Nat} (hd : Dr n m st0 st) (hm : m ≤ 800000) (hN : N ≤ 1000) (h : ∀ st' w, Dr n (m + N) st0 st' → w.length = N → (∀ c ∈ w, c ∈ low ++ upp) → k (.d (.str (S w))) st') : F_law_letters [.l n, .d (.int (N : Int))] st k x := by
  simp [F_law_letters, e_run, w_law_letters, sizeLine_eq]
  refine ⟨by omega, ?_⟩
  refine lcI (α := Nat) (fun i => .int (0 + (i : Int))) (fun l acc st' => ∃ w : List Nat, acc = w.map (fun c => PyData.str (S [c])) ∧ w.length + l.length = N ∧ (∀ c ∈ w, c ∈ low ++ upp) ∧ Dr n (m + w.length) st0 st') (fun a l acc st1 K X hI hK => ?_) (l := List.range N) ?_ (by rw [sizeLine_eq, List.length_range]; omega) ⟨[], rfl, by simp, by simp, hd⟩ (fun acc st3 hI => ?_)
  · obtain ⟨w, rfl, w1, w2, hd3⟩ := hI
    simp only [List.length_cons] at w1
    simp
    refine r_law_draw hd3 (by omega) (by decide) (by decide) fun st4 i4 hd4 hi4 hj4 => ?_
    obtain ⟨c, hc, hl⟩ := pickS lettersK_ok hi4 (by simpa [lettersK] using hj4)
    have hc' : atI [65, 66, 67, 68, 69, 70, 71, 72, 73, 74, 75, 76, 77, 78, 79, 80, 81, 82, 83, 84, 85, 86, 87, 88, 89, 90, 97, 98, 99] i4 = some c := hc
    have := hK (.str (S [c])) _ ⟨w ++ [c], by simp, by simp; omega, fun d hd => by
      rcases List.mem_append.mp hd with hd | hd
      · exact w2 d hd
      · rw [List.mem_singleton.mp hd]
        exact hl, hd4.mono (by simp; omega)⟩
    simpa [g_ixS, hc', sizeLine_eq] using this
  · simp [intR]
  · obtain ⟨w, rfl, w1, w2, hd3⟩ := hI
    simp at w1
    simp
    rw [mJ (strsD_map (fun c => S [c]) w), sum_ones, join_nil]
    refine ⟨by simp; omega, ?_⟩
    try simp
    rw [hd3.take hd]
    exact h _ _ (hd3.mono (by omega)) w1 w2
theorem r_law_text {x0 e0 : Nat} {gs : List Nat} (hd : Dr n m st0 st) (hm : m ≤ 700000) (hN : x0 + gs.sum + e0 ≤ 1000) (hg : gs.length ≤ 20) (h : ∀ st' w, Dr n (m + 1000) st0 st' → w.length = x0 + gs.sum + e0 → (∀ c ∈ w, c ∈ low ++ upp) → k (.d (.list [.str (S w), .tuple (natsD (spS x0 gs))])) st') : F_law_text [.l n, .d (.int (x0 : Int)), .d (.list (gs.map fun g : Nat => .int (g : Int))), .d (.int (e0 : Int))] st k x := by
  have hst := hd.len
  simp [F_law_text, e_run, w_law_text, -e_seq]
  rw [e_seq]
  simp [-e_seq]
  rw [e_seq]
  simp [-e_seq]
  refine ⟨sz (by decide), ?_⟩
  have hlast : ∀ dn : List Nat, atI (natsD (spS x0 dn)) (-1) = some (.int ((x0 + dn.sum : Nat) : Int)) := fun dn => by
    rw [atI_last, natsD, List.getLast?_map, spS_last]
    rfl
  refine loopF_inv (fun ds r => ∃ (dn rs : List Nat) (y5 : Option PyData), dn ++ rs = gs ∧ ds = rs.map (fun g : Nat => PyData.int (g : Int)) ∧ r = ⟨[some (.l n), some (.d (.int (x0 : Int))), some (.d (.list (gs.map fun g : Nat => .int (g : Int)))), some (.d (.int (e0 : Int))), some (.l st.length), y5.map R.d], st ++ [some (natsD (spS x0 dn))]⟩) ?_ ?_ _ _ ⟨[], gs, none, rfl, rfl, rfl⟩
  · rintro d ds r K hK ⟨dn, rs, y5, e1, e2, rfl⟩
    cases rs with
    | nil => simp at e2
    | cons g rs =>
      rw [List.map_cons] at e2
      obtain ⟨rfl, rfl⟩ := List.cons.inj e2
      have hdn : dn.length ≤ 20 := by
        have := congrArg List.length e1
        rw [List.length_append] at this
        omega
      simp [uAppend, sizeLine_eq]
      rw [g_ixLs (hlast dn)]
      simp
      have hsl := spS_len dn x0
      refine ⟨by simp [natsD]; omega, ?_⟩
      have := hK _ ⟨dn ++ [g], rs, some (.int (g : Int)), by simp [e1], rfl, rfl⟩
      rw [spS_snoc] at this
      simpa [natsD] using this
  · rintro r ⟨dn, rs, y5, e1, e2, rfl⟩
    have : rs = [] := by
      cases rs with
      | nil => rfl
      | cons g rs => simp at e2
    subst this
    rw [List.append_nil] at e1
    subst e1
    simp
    rw [g_ixLs (hlast dn)]
    simp
    rw [show (x0 : Int) + (dn.sum : Nat) + e0 = ((x0 + dn.sum + e0 : Nat) : Int) by omega]
    refine r_law_letters (N := x0 + dn.sum + e0) (hd.app _) (by omega) (by omega) fun st1' w hd1' hw hwl => ?_
    obtain ⟨st1, rfl, hd1⟩ := hd1'.unapp hd.1
    have hlen : st.length = st1.length := by have := hd1.len; omega
    simp [hlen]
    refine ⟨sz (by decide), ?_⟩
    exact h _ _ (hd1.mono (by omega)) hw hwl
/-- what is left if each cursor acts by itself -/
theorem r_law_alone {ks w ps : List Nat} {M : Nat} (hk : KeyRow M ks) (hM : M ≤ 60) (hs : SpOk (runF' ks).a (runF' ks).b (dpR ks) 0 ps) (hp : ∀ p ∈ ps, p + (runF' ks).b ≤ w.length) (hw : w.length ≤ 1000) (hpl : ps.length ≤ 20) (hT : (flF (runF' ks) w 0 ps).length ≤ 5000)
    (h : k (.d (.tuple [.str (S (flF (runF' ks) w 0 ps)), .tuple (natsD (plF (runF' ks) 0 0 ps))])) st) : F_law_alone [.d (.str (S w)), .d (.tuple (natsD ps)), .d (effD (runF' ks))] st k x := by
  obtain ⟨ef, efl⟩ := far_eff hk hM
  obtain ⟨d, ed⟩ : ∃ d, dpR ks = d := ⟨_, rfl⟩
  rw [ed] at hs
  obtain ⟨F, eF⟩ : ∃ F, runF' ks = F := ⟨_, rfl⟩
  rw [eF] at ef efl hs hp hT h ⊢
  simp [F_law_alone, e_run, w_law_alone, effD, -e_seq]
  rw [e_seq]
  simp [-e_seq]
  rw [e_seq]
  simp [-e_seq]
  rw [e_seq]
  try simp [-e_seq]
  obtain ⟨T, hT'⟩ : ∃ T, flF F w 0 ps = T := ⟨_, rfl⟩
  obtain ⟨Q, hQ⟩ : ∃ Q, plF F 0 0 ps = Q := ⟨_, rfl⟩
  have hQl : Q.length = ps.length := by
    have go : ∀ (ps : List Nat) (a b : Nat), (plF F a b ps).length = ps.length := by
      intro ps
      induction ps with
      | nil => intro _ _; rfl
      | cons p r ih => intro a b; rw [plF, List.length_cons, ih, List.length_cons]
    rw [← hQ, go]
  have efl' : F.l.length + F.r.length ≤ 200 := by simpa using efl
  rw [hT', hQ] at h
  rw [hT'] at hT
  refine loopF_inv (fun ds r => ∃ (p' D P : List Nat) (done : Nat) (y10 y11 : Option PyData), ds = natsD p' ∧ SpOk F.a F.b d done p' ∧ (∀ p ∈ p', p + F.b ≤ w.length) ∧ D ++ flF F w done p' = T ∧ P ++ plF F D.length done p' = Q ∧
    r = ⟨[some (.d (.str (S w))), some (.d (.tuple (natsD ps))), some (.d (.tuple [.int (F.a : Int), .int (F.b : Int), .tuple (F.l.map itD ++ F.r.map itD), .int (F.l.length : Int)])), some (.d (.int (F.a : Int))), some (.d (.int (F.b : Int))), some (.d (.tuple (F.l.map itD ++ F.r.map itD))), some (.d (.int (F.l.length : Int))), some (.d (.str (S D))), some (.l st.length), some (.d (.int (done : Int))), y10.map R.d, y11.map R.d], st ++ [some (natsD P)]⟩) ?_ ?_ _ _ ⟨ps, [], [], 0, none, none, rfl, hs, hp, hT', hQ, rfl⟩
  · rintro dd ds r K hK ⟨p', D, P, done, y10, y11, e1, e2, e3, e4, e5, rfl⟩
    cases p' with
    | nil => simp [natsD] at e1
    | cons p p' =>
      rw [natsD, List.map_cons] at e1
      obtain ⟨rfl, rfl⟩ := List.cons.inj e1
      have hpb := e3 p (by simp)
      have hpd := e2.head
      rw [flF] at e4
      rw [plF] at e5
      have hDl : D.length + (p - F.a - done) + (F.l.length + F.r.length) ≤ 5000 := by
        have := congrArg List.length e4
        simp only [List.length_append, List.length_map, List.length_take, List.length_drop] at this
        omega
      have hPl : P.length ≤ 20 := by
        have := congrArg List.length e5
        rw [List.length_append] at this
        omega
      have hpc : ((w.drop done).take (p - F.a - done)).length = p - F.a - done := by simp; omega
      simp [-e_seq]
      rw [e_seq]
      simp [-e_seq, g_slS, g_addS, sizeLine_eq]
      rw [cut_a hpd (by omega)]
      refine ⟨by omega, by omega, ?_⟩
      rw [e_seq]
      simp [-e_seq, uAppend, sizeLine_eq, g_lenS]
      refine ⟨by omega, by simp [natsD]; omega, ?_⟩
      rw [e_seq]
      simp [-e_seq]
      obtain ⟨D1, hD1⟩ : ∃ D1, D ++ (w.drop done).take (p - F.a - done) = D1 := ⟨_, rfl⟩
      rw [hD1]
      have hD1l : D1.length = D.length + (p - F.a - done) := by rw [← hD1, List.length_append, hpc]
      have hmin : min (p - F.a - done) (w.length - done) = p - F.a - done := by omega
      rw [hmin]
      have e5' : natsD P ++ [PyData.int ((D.length : Int) + ((p - F.a - done : Nat) : Int) + (F.l.length : Int))] = natsD (P ++ [D.length + (p - F.a - done) + F.l.length]) := by simp [natsD]
      rw [e5']
      refine loopF_inv (fun ds r => ∃ (a b : List Itm) (y11 : Option PyData), a ++ b = F.l ++ F.r ∧ ds = b.map itD ∧
        r = ⟨[some (.d (.str (S w))), some (.d (.tuple (natsD ps))), some (.d (.tuple [.int (F.a : Int), .int (F.b : Int), .tuple (F.l.map itD ++ F.r.map itD), .int (F.l.length : Int)])), some (.d (.int (F.a : Int))), some (.d (.int (F.b : Int))), some (.d (.tuple (F.l.map itD ++ F.r.map itD))), some (.d (.int (F.l.length : Int))), some (.d (.str (S (D1 ++ a.map (phi (chW w p)))))), some (.l st.length), some (.d (.int (done : Int))), some (.d (.int (p : Int))), y11.map R.d], st ++ [some (natsD (P ++ [D.length + (p - F.a - done) + F.l.length]))]⟩) ?_ ?_ _ _ ⟨[], F.l ++ F.r, y11, rfl, by rw [List.map_append], by simp⟩
      · rintro dd ds r K2 hK2 ⟨a, b, y11, f1, f2, rfl⟩
        cases b with
        | nil => simp at f2
        | cons y b =>
          rw [List.map_cons] at f2
          obtain ⟨rfl, rfl⟩ := List.cons.inj f2
          have hab : a.length + (b.length + 1) ≤ 200 := by
            have := congrArg List.length f1
            simp only [List.length_append, List.length_cons] at this
            omega
          have hy : y ∈ F.l ++ F.r := by rw [← f1]; simp
          have := hK2 _ ⟨a ++ [y], b, some (itD y), by simp [f1], rfl, rfl⟩
          cases y with
          | m z =>
            obtain ⟨z1, z2⟩ := marks_bd ef z (mem_marks _ hy)
            obtain ⟨j, hj⟩ : ∃ j : Nat, (p : Int) + z = j := ⟨((p : Int) + z).toNat, by omega⟩
            have hjl : j < w.length := by omega
            simp [itD, -e_seq]
            rw [hj, g_ixS, atI_nat, List.getElem?_eq_getElem hjl]
            have ech : phi (chW w p) (.m z) = w[j] := by
              show w.getD (z + p).toNat 0 = _
              rw [show (z + (p : Int)).toNat = j by omega, List.getD_eq_getElem?_getD, List.getElem?_eq_getElem hjl]
              rfl
            simp [itD, ech] at this
            simp [g_addS, sizeLine_eq]
            refine ⟨by omega, by omega, ?_⟩
            exact this
          | c c =>
            simp [itD, phi] at this
            simp [itD, -e_seq, g_addS, sizeLine_eq]
            refine ⟨by omega, ?_⟩
            exact this
      · rintro r ⟨a, b, y11, f1, f2, rfl⟩
        have : b = [] := by
          cases b with
          | nil => rfl
          | cons y b => simp at f2
        subst this
        rw [List.append_nil] at f1
        subst f1
        dsimp only
        simp [-e_seq]
        have := hK _ ⟨p', D ++ ((w.drop done).take (p - F.a - done) ++ ((F.l ++ F.r).map (phi (chW w p)))), P ++ [D.length + (p - F.a - done) + F.l.length], p + F.b, some (.int (p : Int)), y11, rfl, ?_, fun q hq => e3 q (by simp [hq]), ?_, ?_, rfl⟩
        · rw [← hD1]
          simpa using this
        · cases p' with
          | nil => trivial
          | cons q r => exact e2.2.2
        · rw [← e4]
          simp
        · rw [← e5]
          have el : (D ++ ((w.drop done).take (p - F.a - done) ++ ((F.l ++ F.r).map (phi (chW w p))))).length = D.length + (p - F.a - done) + (F.l ++ F.r).length := by
            rw [List.length_append, List.length_append, hpc, List.length_map]
            omega
          rw [el]
          simp
  · rintro r ⟨p', D, P, done, y10, y11, e1, e2, e3, e4, e5, rfl⟩
    have : p' = [] := by
      cases p' with
      | nil => rfl
      | cons p p' => simp [natsD] at e1
    subst this
    rw [plF, List.append_nil] at e5
    rw [flF] at e4
    have hlenT : D.length + (w.drop done).length ≤ 5000 := by
      have := congrArg List.length e4
      rw [List.length_append] at this
      omega
    simp [-e_seq, g_slS, g_addS, sizeLine_eq]
    rw [cut_frN, e4, e5]
    refine ⟨by omega, by omega, ?_⟩
    exact h
end
end Dl

/-! plain laws, part 51d: the editor -/
namespace Dl
open PySem
open PySem.Spec
open PyProof.Rows
open L2
section
variable {st st0 : Sto} {k : KS} {x : XS0} {n m : Nat}
@[simp ↓] theorem e_enumS {wr : WA} {kl : List D → Env → Prop} {sl : List (Option R)} {xe : XQ} : wEnumS wr ⟨sl, st⟩ kl xe = wr ⟨sl, st⟩ (fun ys r1 => frzs ys r1 fun ds r2 => match ds with
  | [.str z] => kl (pairs (intR 0 (signs z).length) (signs z)) r2
  | _ => False) xe := Eq.trans rfl rfl
@[simp ↓] theorem e_appF {i j j2 : Nat} {cns : List Str} {sl : List (Option R)} {ke : KE} {xe : XQ} : wAppF i j j2 cns ⟨sl, st⟩ ke xe = slotRef ⟨sl, st⟩ i cns fun n _ => lstAt ⟨sl, st⟩ n fun ds => fldAt ds j fun c => asL c fun cur => fldAt ds j2 fun d => unown d = none ∧ cur.length < sizeLine ∧ ke (.d .none) (fput ⟨sl, st⟩ n ds j (ownL (cur ++ [d]))) := Eq.trans rfl rfl
@[simp ↓] theorem e_methV {cn : Str} {G : FS} {wo : WE} {wr : WA} {sl : List (Option R)} {ke : KE} {xe : XQ} : wMethV [(cn, G)] wo wr ⟨sl, st⟩ ke xe = wo ⟨sl, st⟩ (fun y r1 => isRef y [cn] fun i c => lstAt r1 i fun _ => wr r1 (fun ys r2 => match [(cn, G)].lookup c with
  | some G => wStarG 1 G (y :: ys) r2 ke xe
  | none => False) xe) xe := Eq.trans rfl rfl
def edS (ss : List (List Nat)) (past : List D) : List D := [stD ss, ownL past]
theorem r_Editor_init {ss : List (List Nat)} {a b : Nat} (h : StB a b ss) (ha : a ≤ 900000) (hb : b ≤ 900) (hK : k (.d .none) (st ++ [some (edS ss [])])) : F_Editor___init__ [.o (.ref st.length "Editor"), .d (.str (S ss.flatten)), .d (.tuple (natsD (sums 0 ss)))] (st ++ [some []]) k x := by
  have hfl := h.fl
  have hnb := h.nb
  have hsl := sums_len ss 0
  have hA := h.ok.asc
  have hne := h.ok.ne
  have hlt := h.lt
  have e0 : stD ss = .tuple [.str (S ss.flatten), .tuple (natsD (sums 0 ss))] := rfl
  unfold edS at hK
  rw [e0] at hK
  generalize ss.flatten = T at *
  generalize sums 0 ss = C at *
  simp [F_Editor___init__, e_run, w_Editor___init__]
  refine r_check_text (by omega) hlt ?_
  try simp
  refine r_check_cursors (by omega) (by omega) hne hA ?_
  simp
  refine ⟨sz (by decide), ?_⟩
  rw [List.take_of_length_le (by simp)]
  exact hK
theorem r_state_behind {ss : List (List Nat)} {c i : Nat} {s : Sto} (h : SOk ss) (hl : ss.length ≤ 900) (hf : ss.flatten.length ≤ 900000) (hk : k (.d (stD (stepS ss c))) s) : F_Editor_state_behind [.o (.ref i "Editor"), .d (stD ss), .d (.str (S [c]))] s k x := by
  simp [F_Editor_state_behind, e_run, w_Editor_state_behind, stD]
  refine r_step_key h hl hf ?_
  simpa using hk
theorem mJ1 {a : List Nat} {kk : D → Prop} : mJoin (.str (S [])) [.tuple [.str (S a)]] kk = ((([S a].map (·.length)).sum + [S a].length * (S []).length ≤ 16777216) ∧ kk (.str (Txt.join (S []) [S a]))) := rfl
theorem join1 (a : List Nat) : Txt.join (S []) [S a] = S a := by
  show Builtin.Str.glued (S []) [S a] = S a
  first | rfl | simp [Builtin.Str.glued] | (unfold Builtin.Str.glued; rfl)
def idxD : Nat → List Nat → List PyData
  | _, [] => []
  | i, c :: r => .tuple [.int (i : Int), .str (S [c])] :: idxD (i + 1) r
theorem pairs_idx : ∀ (ks : List Nat) (a : Nat), pairs ((List.range' a ks.length).map fun i : Nat => PyData.int i) (ks.map sign) = idxD a ks
  | [], _ => rfl
  | c :: ks, a => by
    have ih := pairs_idx ks (a + 1)
    rw [List.length_cons, List.range'_succ, List.map_cons, List.map_cons, idxD, ← ih]
    rfl
theorem r_state_after {ss : List (List Nat)} {ks : List Nat} {a b i : Nat} {past : List PyData} {s : Sto} (hi : s[i]? = some (some (edS ss past))) (h : StB a b ss) (hk : ∀ c ∈ ks, isKeyB c = true) (hr : ks.length ≤ 900) (hb : b ≤ 900) (ha : a + ks.length * b ≤ 900000) (hK : k (.d (stD (pressS ss ks))) s) :
    F_Editor_state_afterc [.o (.ref i "Editor"), .d (.tuple [.str (S ks)])] s k x := by
  simp [F_Editor_state_afterc, e_run, w_Editor_state_afterc, -e_seq]
  rw [e_seq]
  try simp [-e_seq]
  rw [loopF_cons]
  try simp [-e_seq]
  refine r_check_keys (by omega) ?_
  rw [if_pos (List.all_eq_true.mpr hk)]
  try simp [-e_seq]
  rw [loopF_nil]
  try dsimp only
  rw [e_seq]
  try simp [-e_seq]
  rw [e_lstAt hi]
  have e1 : ∀ K : D → Prop, fldAt (edS ss past) 0 K = K (stD ss) := fun K => rfl
  rw [e1]
  have e2 : ∀ (A : D → Prop) (B : Prop), rdO (stD ss) A B = B := fun A B => rfl
  rw [e2]
  rw [e_seq]
  simp [-e_seq]
  rw [mJ1, join1]
  refine ⟨by simp [S_len]; omega, ?_⟩
  simp [-e_seq, signs_S]
  rw [show intR 0 ks.length = (List.range' 0 ks.length).map fun i : Nat => PyData.int i from intR_range' 0 _, pairs_idx]
  refine loopF_inv (fun ds r => ∃ (pre suf : List Nat) (y4 y5 y6 : Option PyData), pre ++ suf = ks ∧ ds = idxD pre.length suf ∧
    r = ⟨[some (.o (.ref i "Editor")), some (.d (.tuple [.str (S ks)])), some (.d (.str (S ks))), some (.d (stD (pressS ss pre))), y4.map R.d, y5.map R.d, y6.map R.d], s⟩) ?_ ?_ _ _ ⟨[], ks, none, none, none, rfl, rfl, rfl⟩
  · rintro dd ds r K hK' ⟨pre, suf, y4, y5, y6, f1, f2, rfl⟩
    cases suf with
    | nil => simp [idxD] at f2
    | cons c suf =>
      rw [idxD] at f2
      obtain ⟨rfl, rfl⟩ := List.cons.inj f2
      have hpl : pre.length + 1 ≤ ks.length := by
        have := congrArg List.length f1
        simp at this
        omega
      have hpk : ∀ c ∈ pre, isKeyB c = true := fun c hc => hk c (by rw [← f1]; simp [hc])
      have hB := h.press hpk
      have hBf := hB.fl
      have hBn := hB.nb
      have hmul : pre.length * b ≤ ks.length * b := Nat.mul_le_mul_right _ (by omega)
      simp [-e_seq]
      rw [e_seq]
      simp [-e_seq]
      rw [e_lstAt hi]
      refine r_state_behind hB.ok (by omega) (by omega) ?_
      rw [e_seq]
      try simp [-e_seq]
      rw [e_lstAt hi]
      have hcm : ∀ (K : KS) (X : XS0) (y1 y2 y3 : R), K (.d .none) s → F_Editor_check_meeting [.o (.ref i "Editor"), y1, y2, y3] s K X := fun K X y1 y2 y3 hK => by
        simp [F_Editor_check_meeting, e_run, w_Editor_check_meeting]
        exact hK
      refine hcm _ _ _ _ _ ?_
      try simp
      have hps : pressS ss (pre ++ [c]) = stepS (pressS ss pre) c := by
        unfold pressS
        rw [List.foldl_append]
        rfl
      have := hK' _ ⟨pre ++ [c], suf, some (.int (pre.length : Int)), some (.str (S [c])), some (stD (stepS (pressS ss pre) c)), by simp [f1], by simp, rfl⟩
      rw [hps] at this
      exact this
  · rintro r ⟨pre, suf, y4, y5, y6, f1, f2, rfl⟩
    have : suf = [] := by
      cases suf with
      | nil => rfl
      | cons c suf => simp [idxD] at f2
    subst this
    rw [List.append_nil] at f1
    subst f1
    simp
    simpa using hK
theorem r_press_all {ss : List (List Nat)} {ks : List Nat} {a b i : Nat} {past : List PyData} {s : Sto} (hi : s[i]? = some (some (edS ss past))) (h : StB a b ss) (hk : ∀ c ∈ ks, isKeyB c = true) (hr : ks.length ≤ 900) (hb : b ≤ 900) (ha : a + ks.length * b ≤ 900000) (hp : past.length ≤ 1000)
    (hK : k (.d (.int ((sums 0 (pressS ss ks)).length : Int))) (s.set i (some (edS (pressS ss ks) (past ++ [stD ss]))))) :
    F_Editor_press_all [.o (.ref i "Editor"), .d (.tuple [.str (S ks)])] s k x := by
  have hil := (List.getElem?_eq_some_iff.mp hi).1
  simp [F_Editor_press_all, e_run, w_Editor_press_all, -e_seq]
  rw [e_seq]
  simp [-e_seq]
  rw [e_lstAt hi]
  refine r_state_after hi h hk hr hb ha ?_
  rw [e_seq]
  simp [-e_seq]
  rw [e_lstAt hi]
  have e1 : ∀ K : D → Prop, fldAt (edS ss past) 1 K = K (ownL past) := fun K => rfl
  have e2 : ∀ K : D → Prop, fldAt (edS ss past) 0 K = K (stD ss) := fun K => rfl
  rw [e1, asL_own, e2]
  refine ⟨rfl, by rw [sizeLine_eq]; omega, ?_⟩
  have e3 : setA (edS ss past) 1 (ownL (past ++ [stD ss])) = edS ss (past ++ [stD ss]) := rfl
  rw [e3]
  have hi2 : (s.set i (some (edS ss (past ++ [stD ss]))))[i]? = some (some (edS ss (past ++ [stD ss]))) := by simp [hil]
  rw [e_seq]
  simp [-e_seq, hil]
  rw [e_lstAt hi2]
  have e4 : ∀ K : D → Prop, gIx (stD (pressS ss ks)) (.int 1) K = K (.tuple (natsD (sums 0 (pressS ss ks)))) := fun K => by
    show gIx (.tuple [.str (S (pressS ss ks).flatten), .tuple (natsD (sums 0 (pressS ss ks)))]) (.int 1) K = _
    simp
  rw [e4]
  have e5 : setA (edS ss (past ++ [stD ss])) 0 (stD (pressS ss ks)) = edS (pressS ss ks) (past ++ [stD ss]) := rfl
  rw [e5]
  have hn : (natsD (sums 0 (pressS ss ks))).length = (sums 0 (pressS ss ks)).length := by simp [natsD]
  simp [hn]
  exact hK
theorem r_Editor_press {ss : List (List Nat)} {ks : List Nat} {a b i : Nat} {past : List PyData} {s : Sto} (hi : s[i]? = some (some (edS ss past))) (h : StB a b ss) (hk : ∀ c ∈ ks, isKeyB c = true) (hr : ks.length ≤ 900) (hb : b ≤ 900) (ha : a + ks.length * b ≤ 900000) (hp : past.length ≤ 1000)
    (hK : k (.d (.int ((sums 0 (pressS ss ks)).length : Int))) (s.set i (some (edS (pressS ss ks) (past ++ [stD ss]))))) :
    F_Editor_press [.o (.ref i "Editor"), .d (.str (S ks))] s k x := by
  simp [F_Editor_press, e_run, w_Editor_press, -e_seq]
  rw [e_lstAt hi]
  unfold wStarG
  refine ⟨by simp, ?_⟩
  simp [dataL]
  refine ⟨sz (by decide), ?_⟩
  refine r_press_all hi h hk hr hb ha hp ?_
  simpa using hK
theorem r_text_now {ss : List (List Nat)} {i : Nat} {past : List PyData} {s : Sto} (hi : s[i]? = some (some (edS ss past))) (hK : k (.d (.str (S ss.flatten))) s) : F_Editor_text_now [.o (.ref i "Editor")] s k x := by
  simp [F_Editor_text_now, e_run, w_Editor_text_now]
  rw [e_lstAt hi]
  have e1 : ∀ K : D → Prop, fldAt (edS ss past) 0 K = K (stD ss) := fun K => rfl
  have e2 : ∀ (A : D → Prop) (B : Prop), rdO (stD ss) A B = B := fun A B => rfl
  rw [e1, e2]
  simpa [stD] using hK
theorem r_cursors_now {ss : List (List Nat)} {i : Nat} {past : List PyData} {s : Sto} (hi : s[i]? = some (some (edS ss past))) (hK : k (.d (.tuple (natsD (sums 0 ss)))) s) : F_Editor_cursors_now [.o (.ref i "Editor")] s k x := by
  simp [F_Editor_cursors_now, e_run, w_Editor_cursors_now]
  rw [e_lstAt hi]
  have e1 : ∀ K : D → Prop, fldAt (edS ss past) 0 K = K (stD ss) := fun K => rfl
  have e2 : ∀ (A : D → Prop) (B : Prop), rdO (stD ss) A B = B := fun A B => rfl
  rw [e1, e2]
  simpa [stD] using hK
end
end Dl

/-! plain laws, part 51e: the parts of the law k51 -/
namespace Dl
open PySem
open PySem.Spec
open PyProof.Rows
open L2
theorem sum_le : ∀ (gs : List Nat) (B : Nat), (∀ g ∈ gs, g ≤ B) → gs.sum ≤ B * gs.length
  | [], B, _ => by simp
  | g :: gs, B, h => by
    have ih := sum_le gs B fun y hy => h y (by simp [hy])
    have := h g (by simp)
    rw [List.sum_cons, List.length_cons, Nat.mul_add]
    omega
section
variable {st st0 : Sto} {k : KS} {x : XS0} {n m : Nat}
theorem r_far_right {ks : List Nat} (hk : KeyRow 21 ks) (hd : Dr n m st0 st) (hm : m ≤ 600000) (h : ∀ st', Dr n (m + 1100) st0 st' → k (.d (.bool true)) st') : F_law_far_right_v1 [.l n, .d (.str (S ks))] st k x := by
  have hkl := hk.1
  have hst := hd.len
  obtain ⟨ef, efl⟩ := far_eff hk (by decide)
  have hrs := rsum_len ks
  have hdn := dpR_nonneg ks
  have hdl := dpR_le ks
  have hF : rsum ks = (runF' ks).a + (runF' ks).b := rfl
  rw [hF] at hrs
  simp [F_law_far_right_v1, e_run, w_law_far_right_v1, -e_seq]
  rw [e_seq]
  simp [-e_seq]
  refine r_reach_good hk (by decide) ?_
  simp [-e_seq]
  rw [e_seq]
  simp [-e_seq]
  refine r_dep hk (by decide) ?_
  simp [-e_seq]
  obtain ⟨d, ed⟩ : ∃ d : Nat, dpR ks = d := ⟨(dpR ks).toNat, by omega⟩
  have eR : max (((runF' ks).a : Int) + (runF' ks).b) (dpR ks + 1) = ((max ((runF' ks).a + (runF' ks).b) (d + 1) : Nat) : Int) := by omega
  rw [eR]
  obtain ⟨L, hL⟩ : ∃ L, max ((runF' ks).a + (runF' ks).b) (d + 1) = L := ⟨_, rfl⟩
  rw [hL]
  rw [e_seq]
  simp [-e_seq]
  refine r_law_draw hd (by omega) (by decide) (by decide) fun st1 i1 hd1 hi1 hj1 => ?_
  obtain ⟨N, rfl⟩ : ∃ N : Nat, i1 = N := ⟨i1.toNat, by omega⟩
  simp [-e_seq]
  refine ⟨by omega, ?_⟩
  refine lcI (α := Nat) (fun i => .int (0 + (i : Int))) (fun l acc st' => ∃ gs : List Nat, acc = gs.map (fun g : Nat => PyData.int (g : Int)) ∧ gs.length + l.length = N ∧ (∀ g ∈ gs, L ≤ g ∧ g ≤ L + 3) ∧ Dr n (m + 1 + gs.length) st0 st') (fun a l acc st1 K X hI hK => ?_) (l := List.range N) ?_ (by rw [sizeLine_eq, List.length_range]; omega) ⟨[], rfl, by simp, by simp, hd1⟩ (fun acc st3 hI => ?_)
  · obtain ⟨gs, rfl, w1, w2, hd3⟩ := hI
    simp only [List.length_cons] at w1
    simp
    refine r_law_draw hd3 (by omega) (by decide) (by decide) fun st4 i4 hd4 hi4 hj4 => ?_
    obtain ⟨j, rfl⟩ : ∃ j : Nat, i4 = j := ⟨i4.toNat, by omega⟩
    have := hK (.int ((L + j : Nat) : Int)) _ ⟨gs ++ [L + j], by simp, by simp; omega, fun g hg => by
      rcases List.mem_append.mp hg with hg | hg
      · exact w2 g hg
      · rw [List.mem_singleton.mp hg]
        omega, hd4.mono (by simp; omega)⟩
    simpa using this
  · simp [intR]
  · obtain ⟨gs, rfl, w1, w2, hd3⟩ := hI
    simp at w1
    simp [-e_seq]
    rw [e_seq]
    simp [-e_seq]
    refine r_law_draw hd3 (by omega) (by decide) (by decide) fun st4 i4 hd4 hi4 hj4 => ?_
    obtain ⟨j4, rfl⟩ : ∃ j : Nat, i4 = j := ⟨i4.toNat, by omega⟩
    simp [-e_seq]
    refine r_law_draw hd4 (by omega) (by decide) (by decide) fun st5 i5 hd5 hi5 hj5 => ?_
    obtain ⟨j5, rfl⟩ : ∃ j : Nat, i5 = j := ⟨i5.toNat, by omega⟩
    simp [-e_seq]
    rw [show ((runF' ks).a : Int) + j4 = (((runF' ks).a + j4 : Nat) : Int) by omega, show ((runF' ks).b : Int) + j5 = (((runF' ks).b + j5 : Nat) : Int) by omega]
    have hsum : gs.sum ≤ (L + 3) * gs.length := sum_le gs (L + 3) fun g hg => (w2 g hg).2
    have hsum2 : gs.sum ≤ 125 := by
      have : (L + 3) * gs.length ≤ 25 * 5 := Nat.mul_le_mul (by omega) (by omega)
      omega
    refine r_law_text (x0 := (runF' ks).a + j4) (e0 := (runF' ks).b + j5) (gs := gs) hd5 (by omega) (by omega) (by omega) fun st6 w hd6 hw hwl => ?_
    simp [-e_seq]
    have hwl2 : w.length ≤ 300 := by omega
    obtain ⟨ps, hps⟩ : ∃ ps, spS ((runF' ks).a + j4) gs = ps := ⟨_, rfl⟩
    have hpl : ps.length ≤ 6 := by rw [← hps, spS_len]; omega
    have hpn : ps ≠ [] := by rw [← hps]; exact spS_ne _ _
    have hok : SpOk (runF' ks).a (runF' ks).b (dpR ks) 0 ps := by
      rw [← hps]
      exact spS_ok gs 0 _ (by omega) fun g hg => by
        have := w2 g hg
        omega
    have hple : ∀ p ∈ ps, p + (runF' ks).b ≤ w.length := fun p hp => by
      rw [← hps] at hp
      have := spS_le gs _ p hp
      omega
    obtain ⟨ss, q1, q2, q3, q4, q5, q6⟩ := far_press (w := w) (ks := ks) (ps := ps) hpn hok hple
    have hB : StB 300 7 ss := ⟨q1, fun c hc => by
      rw [q3] at hc
      exact hwl c hc, by rw [q3]; omega, by omega⟩
    have hB2 := hB.press hk.2
    obtain ⟨T, hT⟩ : ∃ T, flF (runF' ks) w 0 ps = T := ⟨_, rfl⟩
    obtain ⟨Q, hQ⟩ : ∃ Q, plF (runF' ks) 0 0 ps = Q := ⟨_, rfl⟩
    rw [hT] at q5
    rw [hQ] at q6
    have hTl : T.length ≤ 500 := by
      have := hB2.fl
      rw [q5] at this
      omega
    have hQl : Q.length ≤ 7 := by
      rw [← q6, sums_len]
      have := hB2.nb
      omega
    rw [hps]
    try simp [-e_seq]
    rw [e_seq]
    try simp [-e_seq]
    refine r_far_effect (by omega) hk.2 ?_
    try simp [-e_seq]
    refine r_law_alone hk (by decide) hok hple (by omega) (by omega) (by rw [hT]; omega) ?_
    rw [hT, hQ]
    try simp [-e_seq]
    rw [e_seq]
    try simp [-e_seq]
    have hin : ∀ (K : KS) (X : XS0), K (.d .none) (st6 ++ [some (edS ss [])]) → F_Editor___init__ [.o (.ref st6.length "Editor"), .d (.str (S w)), .d (.tuple (natsD ps))] (st6 ++ [some []]) K X := fun K X hK => by
      have := r_Editor_init (st := st6) (k := K) (x := X) hB (by omega) (by omega) hK
      rw [q3, q4] at this
      exact this
    refine hin _ _ ⟨rfl, ?_⟩
    have hget : (st6 ++ [some (edS ss [])])[st6.length]? = some (some (edS ss [])) := by simp
    rw [e_seq]
    try simp [-e_seq]
    refine r_Editor_press hget hB hk.2 (by omega) (by omega) (by omega) (by simp) ?_
    obtain ⟨ss2, hss2⟩ : ∃ ss2, pressS ss ks = ss2 := ⟨_, rfl⟩
    rw [hss2] at q5 q6 hB2 ⊢
    have hset : (st6 ++ [some (edS ss [])]).set st6.length (some (edS ss2 ([] ++ [stD ss]))) = st6 ++ [some (edS ss2 [stD ss])] := by simp
    rw [hset]
    try simp [-e_seq]
    have hrp : ∀ (K : KS) (X : XS0) (s6 : Sto), K (.d (.tuple [.str (S T), .tuple (natsD Q)])) s6 → F_pressed [.d (.str (S w)), .d (.tuple (natsD ps)), .d (.str (S ks))] s6 K X := fun K X s6 hK => by
      have := r_pressed (st := s6) (k := K) (x := X) hB hk.2 (by omega) (by omega) (by omega) (by
        rw [hss2]
        show K (.d (.tuple [.str (S ss2.flatten), .tuple (natsD (sums 0 ss2))])) s6
        rw [q5, q6]
        exact hK)
      rw [q3, q4] at this
      exact this
    refine hrp _ _ _ ?_
    have hTlow : ∀ c ∈ T, c < 0x110000 := fun c hc => by
      have h2 : ∀ c ∈ low ++ upp, c < 0x110000 := by decide
      refine h2 c (hB2.lt c ?_)
      rw [q5]
      exact hc
    have hQb : ∀ i ∈ Q, i ≤ 1000000 := fun i hi => by
      rw [← q6] at hi
      have := sums_topA _ _ i hi
      rw [q5] at this
      omega
    have hfit : Fit 2 (2 * 1000001) (.tuple [.str (S T), .tuple (natsD Q)]) := fit_tup (h := 1) (w := 1000000) (n := 2) (fun dd hdd => by
      simp only [List.mem_cons, List.not_mem_nil, or_false] at hdd
      rcases hdd with rfl | rfl
      · exact (fit_str hTlow).mono (by omega) (by omega)
      · exact (fit_natsT (by omega) hQb).mono (by omega) (by omega)) (by simp)
    try simp [-e_seq]
    refine hfit.eq (by omega) ?_
    try simp [-e_seq]
    have hget2 : (st6 ++ [some (edS ss2 [stD ss])])[st6.length]? = some (some (edS ss2 [stD ss])) := by simp
    refine r_text_now hget2 ?_
    rw [e_lstAt hget2]
    refine r_cursors_now hget2 ?_
    refine ⟨sz (by decide), ?_⟩
    rw [q5, q6]
    try simp [-e_seq]
    refine hfit.eq (by omega) ?_
    rw [show (st6 ++ [some (edS ss2 [stD ss])]).take st.length = st6 by rw [hst, ← hd6.len, List.take_left]]
    exact h _ (hd6.mono (by omega))
theorem r_near_right {ks : List Nat} (hk : KeyRow 21 ks) (hd : Dr n m st0 st) (hm : m ≤ 600000) (h : ∀ st', Dr n (m + 1100) st0 st' → k (.d (.bool true)) st') : F_law_near_right [.l n, .d (.str (S ks))] st k x := by
  have hkl := hk.1
  have hst := hd.len
  have hdn := dpR_nonneg ks
  have hdl := dpR_le ks
  have hnb := netI_bd ks
  simp [F_law_near_right, e_run, w_law_near_right, -e_seq]
  rw [e_seq]
  simp [-e_seq]
  refine r_dep hk (by decide) ?_
  simp [-e_seq, g_lenS, sizeLine_eq]
  refine ⟨by omega, ?_⟩
  rw [e_seq]
  simp [-e_seq]
  obtain ⟨d, ed⟩ : ∃ d : Nat, dpR ks = d := ⟨(dpR ks).toNat, by omega⟩
  refine r_law_draw hd (by omega) (by decide) (by decide) fun st1 i1 hd1 hi1 hj1 => ?_
  obtain ⟨N, rfl⟩ : ∃ N : Nat, i1 = N := ⟨i1.toNat, by omega⟩
  try simp [-e_seq]
  refine ⟨by omega, ?_⟩
  refine lcI (α := Nat) (fun i => .int (0 + (i : Int))) (fun l acc st' => ∃ gs : List Nat, acc = gs.map (fun g : Nat => PyData.int (g : Int)) ∧ gs.length + l.length = N ∧ (∀ g ∈ gs, 1 ≤ g ∧ g ≤ 30) ∧ Dr n (m + 1 + gs.length) st0 st') (fun a l acc st1 K X hI hK => ?_) (l := List.range N) ?_ (by rw [sizeLine_eq, List.length_range]; omega) ⟨[], rfl, by simp, by simp, hd1⟩ (fun acc st3 hI => ?_)
  · obtain ⟨gs, rfl, w1, w2, hd3⟩ := hI
    simp only [List.length_cons] at w1
    simp
    refine r_law_draw hd3 (by omega) (by omega) (by omega) fun st4 i4 hd4 hi4 hj4 => ?_
    obtain ⟨j, rfl⟩ : ∃ j : Nat, i4 = j := ⟨i4.toNat, by omega⟩
    have := hK (.int ((1 + j : Nat) : Int)) _ ⟨gs ++ [1 + j], by simp, by simp; omega, fun g hg => by
      rcases List.mem_append.mp hg with hg | hg
      · exact w2 g hg
      · rw [List.mem_singleton.mp hg]
        omega, hd4.mono (by simp; omega)⟩
    simpa using this
  · simp [intR]
  · obtain ⟨gs, rfl, w1, w2, hd3⟩ := hI
    simp at w1
    simp [-e_seq]
    rw [e_seq]
    simp [-e_seq]
    refine r_law_draw hd3 (by omega) (by decide) (by decide) fun st4 i4 hd4 hi4 hj4 => ?_
    obtain ⟨j4, rfl⟩ : ∃ j : Nat, i4 = j := ⟨i4.toNat, by omega⟩
    simp [-e_seq]
    refine r_law_draw hd4 (by omega) (by decide) (by decide) fun st5 i5 hd5 hi5 hj5 => ?_
    obtain ⟨j5, rfl⟩ : ∃ j : Nat, i5 = j := ⟨i5.toNat, by omega⟩
    simp [-e_seq]
    rw [show (ks.length : Int) + j4 = ((ks.length + j4 : Nat) : Int) by omega, show (ks.length : Int) + j5 = ((ks.length + j5 : Nat) : Int) by omega]
    have hsum : gs.sum ≤ 30 * gs.length := sum_le gs 30 fun g hg => (w2 g hg).2
    refine r_law_text (x0 := ks.length + j4) (e0 := ks.length + j5) (gs := gs) hd5 (by omega) (by omega) (by omega) fun st6 w hd6 hw hwl => ?_
    simp [-e_seq]
    obtain ⟨c1, c2, c3, c4, c5⟩ := cutG_ok (w := w) gs (ks.length + j4) (by omega) fun g hg => (w2 g hg).1
    obtain ⟨ss, hss⟩ : ∃ ss, w.take (ks.length + j4) :: (cutG w (ks.length + j4) gs ++ [w.drop (ks.length + j4 + gs.sum)]) = ss := ⟨_, rfl⟩
    have hA : (w.take (ks.length + j4)).length = ks.length + j4 := by simp; omega
    have hZ : (w.drop (ks.length + j4 + gs.sum)).length = ks.length + j5 := by simp; omega
    have q3 : ss.flatten = w := by
      rw [← hss, List.flatten_cons, c1, List.take_append_drop]
    have q4 : sums 0 ss = spS (ks.length + j4) gs := by
      rw [← hss, sums_cons _ _ (by simp), hA, Nat.zero_add, c2]
    have q1 : SOk ss := ⟨_, _, _, hss.symm, c4⟩
    have hB : StB 400 12 ss := ⟨q1, fun c hc => by
      rw [q3] at hc
      exact hwl c hc, by rw [q3]; omega, by rw [← hss]; simp; omega⟩
    have hB2 := hB.press hk.2
    obtain ⟨A', m', Z', e1, e2⟩ := press_mid ks (w.take (ks.length + j4)) (w.drop (ks.length + j4 + gs.sum)) (cutG w (ks.length + j4) gs) c4 (by omega) (by omega)
    rw [hss] at e1
    have eg : gapsZ (sums 0 (pressS ss ks)) = ((gs.map fun g : Nat => (g : Int)).filter fun g => decide (dpR ks < g)).map fun g => g + netI ks := by
      rw [e1, gaps_form, e2, c3, fm_live]
      intro g hg
      obtain ⟨z, hz, rfl⟩ := List.mem_map.mp hg
      have := (w2 z hz).1
      omega
    rw [← q4]
    rw [e_seq]
    simp [-e_seq]
    have hrp : ∀ (K : KS) (X : XS0), K (.d (stD (pressS ss ks))) st6 → F_pressed [.d (.str (S w)), .d (.tuple (natsD (sums 0 ss))), .d (.str (S ks))] st6 K X := fun K X hK => by
      have := r_pressed (st := st6) (k := K) (x := X) hB hk.2 (by omega) (by omega) (by omega) hK
      rw [q3] at this
      exact this
    refine hrp _ _ ?_
    have estd : stD (pressS ss ks) = .tuple [.str (S (pressS ss ks).flatten), .tuple (natsD (sums 0 (pressS ss ks)))] := rfl
    rw [estd]
    rw [e_seq]
    simp [-e_seq]
    have egs : (gs.map fun g : Nat => PyData.int (g : Int)) = (gs.map fun g : Nat => (g : Int)).map PyData.int := by
      rw [List.map_map]
      rfl
    rw [egs]
    refine lc1 (α := Int) (fun g => .int g) (fun g => decide (dpR ks < g)) (fun g => .int (g + netI ks)) rfl (fun g _ K X hK => by simpa using hK) (fun g _ _ K X hK => ?_) (sz (by simp; omega)) ?_
    · simp
      refine r_net_of (by omega) hk.2 ?_
      simpa using hK
    · have eA : ((gs.map fun g : Nat => (g : Int)).filter fun g => decide (dpR ks < g)).map (fun g => PyData.int (g + netI ks)) = (gapsZ (sums 0 (pressS ss ks))).map PyData.int := by
        rw [eg, List.map_map]
        rfl
      rw [eA]
      try simp [-e_seq]
      refine r_layout_of hB2 (by omega) (by omega) fun f e => ?_
      try simp [-e_seq]
      have hgl : (gapsZ (sums 0 (pressS ss ks))).length ≤ 12 := by
        have := hB2.nb
        have := sums_len (pressS ss ks) 0
        unfold gapsZ
        rw [List.length_map, List.length_zip]
        simp
        omega
      have hgb : ∀ i ∈ gapsZ (sums 0 (pressS ss ks)), i.natAbs < 10 ^ 60 := fun i hi => by
        rw [eg] at hi
        obtain ⟨z, hz, rfl⟩ := List.mem_map.mp hi
        obtain ⟨y, hy, rfl⟩ := List.mem_map.mp (List.mem_filter.mp hz).1
        have := (w2 y hy).2
        omega
      have hfit := fit_ints8 (l := gapsZ (sums 0 (pressS ss ks))) (N := 12) hgl hgb
      refine hfit.eq (by omega) ?_
      rw [hd6.take hd]
      exact h _ (hd6.mono (by omega))
end
end Dl

/-! plain law k51 -/
namespace Dl
open PySem
open PySem.Spec
open PyProof.Rows
open L2
theorem plain_k51 (ns : List Int) (hl : ns.length ≤ 63) : F_law_k51 [.o (.scr ns)] [] (fun y _ => y = .d (.bool true)) (fun _ _ => False) := by
  simp [F_law_k51, e_run, w_law_k51, sizeLine_eq]
  refine ⟨by omega, by omega, ?_⟩
  refine loopF_inv (fun ds r => (∀ d ∈ ds, ∃ j : Nat, d = .int j ∧ j ≤ 1000) ∧ ∃ (y1 y2 y3 y4 : Option R) (st : Sto), r = ⟨[some (.o (.scr ns)), y1, y2, y3, y4], st⟩) ?_ ?_ _ _ ⟨?_, none, none, none, none, [], rfl⟩
  · rintro d ds r K hK ⟨hds, y1, y2, y3, y4, st, rfl⟩
    obtain ⟨j, rfl, hj⟩ := hds d (by simp)
    try simp
    refine r_law_pool hj fun b hb => ?_
    try simp
    refine loopF_inv (fun ds r => ∃ (c : Nat) (st1 : Sto) (y3 y4 : Option R), (∀ d ∈ ds, ∃ j : Nat, d = .int j) ∧ c + 3000 * ds.length ≤ 12000 ∧ Dr st.length c (st ++ [some b]) st1 ∧ r = ⟨[some (.o (.scr ns)), some (.d (.int j)), some (.l st.length), y3, y4], st1⟩) ?_ ?_ _ _ ⟨0, _, y3, y4, ?_, ?_, Dr.start (b := b) (by simp) hb, rfl⟩
    · rintro d ds' r K2 hK2 ⟨c, st1, y3, y4, hds', hc, hd, rfl⟩
      obtain ⟨j', rfl⟩ := hds' d (by simp)
      simp only [List.length_cons] at hc
      try simp
      refine r_law_strokes (top := 16) hd (by omega) (by decide) fun st2 ks hd2 hks => ?_
      try simp
      refine r_far_right hks hd2 (by omega) fun st3 hd3 => ?_
      try simp
      refine r_near_right hks hd3 (by omega) fun st4 hd4 => ?_
      try simp
      exact hK2 _ ⟨c + 3000, st4, _, _, fun d hd => hds' d (by simp [hd]), by omega, hd4.mono (by omega), rfl⟩
    · rintro r ⟨c, st1, y3, y4, _, hc, hd, rfl⟩
      exact hK _ ⟨fun d hd => hds d (by simp [hd]), _, _, _, _, _, rfl⟩
    · intro d hd
      obtain ⟨i, _, rfl⟩ := List.mem_map.mp hd
      exact ⟨i, by simp⟩
    · simp [intR]
  · rintro r ⟨_, y1, y2, y3, y4, st, rfl⟩
    simp
    have hB : StB 4 3 [[97], [98, 99], [100]] := ⟨⟨[97], [[98, 99]], [100], rfl, by simp⟩, by decide, by decide, by decide⟩
    have e0 : stD (pressS [[97], [98, 99], [100]] [45, 120]) = .tuple [.str (S [120, 98, 120, 100]), .tuple [.int 1, .int 3]] := rfl
    have hrp : ∀ (K : KS) (X : XS0), K (.d (.tuple [.str (S [120, 98, 120, 100]), .tuple [.int 1, .int 3]])) st → F_pressed [.d (.str (S [97, 98, 99, 100])), .d (.tuple [.int 1, .int 3]), .d (.str (S [45, 120]))] st K X := fun K X hK =>
      r_pressed (ss := [[97], [98, 99], [100]]) (row := [45, 120]) hB (by decide) (by decide) (by decide) (by decide) (by rw [e0]; exact hK)
    refine ⟨sz (by decide), hrp _ _ ⟨sz (by decide), ?_⟩⟩
    rw [e_dref_d]
    have hfit : Fit 2 100000 (.tuple [.str (S [120, 98, 120, 100]), .tuple [.int 1, .int 3]]) := (fit_tup (h := 1) (w := 1000) (n := 2) (fun dd hdd => by
      simp only [List.mem_cons, List.not_mem_nil, or_false] at hdd
      rcases hdd with rfl | rfl
      · exact (fit_str (by decide)).mono (by decide) (by decide)
      · exact (fit_tup (h := 0) (w := 200) (n := 2) (fun d hd => by
          simp only [List.mem_cons, List.not_mem_nil, or_false] at hd
          rcases hd with rfl | rfl <;> exact fit_int (by decide)) (by decide)).mono (by decide) (by decide)) (by decide)).mono (by decide) (by decide)
    exact hfit.eq (k := fun b => b = true) (by decide) rfl
  · intro d hd
    obtain ⟨i, hi, rfl⟩ := List.mem_map.mp hd
    have := List.mem_range.mp hi
    exact ⟨i, by simp, by omega⟩
end Dl

namespace Dl
open PySem
open PySem.Spec
open PyProof.Rows
open L2
def topS (i : Nat) : Stmt := PySem.Challenge.pw_cursorkeys_k51_whole_cursors_act_alone.main.body.getD i (.Pass ⟨0, 0, 0, 0⟩)
abbrev s_law_pool : Stmt := topS 42
theorem sc_law_pool : FnScope ["script", "at", "cell"] ["script", "at"] (defScope s_law_pool) := ⟨rfl, rfl, rfl, by decide +kernel, rfl, by decide +kernel, by decide +kernel⟩
abbrev s_is_text : Stmt := topS 17
theorem sc_is_text : FnScope ["value", "sign"] ["value"] (defScope s_is_text) := ⟨rfl, rfl, rfl, by decide +kernel, rfl, by decide +kernel, by decide +kernel⟩
abbrev s_check_text : Stmt := topS 19
theorem sc_check_text : FnScope ["text"] ["text"] (defScope s_check_text) := ⟨rfl, rfl, rfl, by decide +kernel, rfl, by decide +kernel, by decide +kernel⟩
abbrev s_is_integer : Stmt := topS 14
theorem sc_is_integer : FnScope ["value", "low", "high"] ["value", "low", "high"] (defScope s_is_integer) := ⟨rfl, rfl, rfl, by decide +kernel, rfl, by decide +kernel, by decide +kernel⟩
abbrev s_is_cursors : Stmt := topS 18
theorem sc_is_cursors : FnScope ["text", "value", "cursor", "one", "other"] ["text", "value"] (defScope s_is_cursors) := ⟨rfl, rfl, rfl, by decide +kernel, rfl, by decide +kernel, by decide +kernel⟩
abbrev s_check_cursors : Stmt := topS 20
theorem sc_check_cursors : FnScope ["text", "cursors"] ["text", "cursors"] (defScope s_check_cursors) := ⟨rfl, rfl, rfl, by decide +kernel, rfl, by decide +kernel, by decide +kernel⟩
abbrev s_is_key : Stmt := topS 15
theorem sc_is_key : FnScope ["value"] ["value"] (defScope s_is_key) := ⟨rfl, rfl, rfl, by decide +kernel, rfl, by decide +kernel, by decide +kernel⟩
abbrev s_is_keys : Stmt := topS 16
theorem sc_is_keys : FnScope ["value", "sign"] ["value"] (defScope s_is_keys) := ⟨rfl, rfl, rfl, by decide +kernel, rfl, by decide +kernel, by decide +kernel⟩
abbrev s_check_keys : Stmt := topS 21
theorem sc_check_keys : FnScope ["keys"] ["keys"] (defScope s_check_keys) := ⟨rfl, rfl, rfl, by decide +kernel, rfl, by decide +kernel, by decide +kernel⟩
abbrev s_stretches_of : Stmt := topS 22
theorem sc_stretches_of : FnScope ["text", "cursors", "bounds", "low", "high"] ["text", "cursors"] (defScope s_stretches_of) := ⟨rfl, rfl, rfl, by decide +kernel, rfl, by decide +kernel, by decide +kernel⟩
abbrev s_places_without_copies : Stmt := topS 23
theorem sc_places_without_copies : FnScope ["places", "found", "place"] ["places"] (defScope s_places_without_copies) := ⟨rfl, rfl, rfl, by decide +kernel, rfl, by decide +kernel, by decide +kernel⟩
abbrev s_state_with : Stmt := topS 24
theorem sc_state_with : FnScope ["stretches", "places", "total", "stretch"] ["stretches"] (defScope s_state_with) := ⟨rfl, rfl, rfl, by decide +kernel, rfl, by decide +kernel, by decide +kernel⟩
abbrev s_step_key : Stmt := topS 25
theorem sc_step_key : FnScope ["text", "cursors", "key", "stretches", "cursor", "stretch"] ["text", "cursors", "key"] (defScope s_step_key) := ⟨rfl, rfl, rfl, by decide +kernel, rfl, by decide +kernel, by decide +kernel⟩
abbrev s_pressed : Stmt := topS 26
theorem sc_pressed : FnScope ["text", "cursors", "keys", "state", "key"] ["text", "cursors", "keys"] (defScope s_pressed) := ⟨rfl, rfl, rfl, by decide +kernel, rfl, by decide +kernel, by decide +kernel⟩
abbrev s_law_draw : Stmt := topS 43
theorem sc_law_draw : FnScope ["pool", "many", "drawn", "mixed"] ["pool", "many"] (defScope s_law_draw) := ⟨rfl, rfl, rfl, by decide +kernel, rfl, by decide +kernel, by decide +kernel⟩
abbrev s_law_strokes : Stmt := topS 44
theorem sc_law_strokes : FnScope ["pool", "most", "signs", "many", "turn"] ["pool", "most"] (defScope s_law_strokes) := ⟨rfl, rfl, rfl, by decide +kernel, rfl, by decide +kernel, by decide +kernel⟩
abbrev s_far_run : Stmt := topS 34
theorem sc_far_run : FnScope ["keys", "left_reach", "right_reach", "left", "right", "key"] ["keys"] (defScope s_far_run) := ⟨rfl, rfl, rfl, by decide +kernel, rfl, by decide +kernel, by decide +kernel⟩
abbrev s_reach_of : Stmt := topS 37
theorem sc_reach_of : FnScope ["keys"] ["keys"] (defScope s_reach_of) := ⟨rfl, rfl, rfl, by decide +kernel, rfl, by decide +kernel, by decide +kernel⟩
abbrev s_law_letters : Stmt := topS 45
theorem sc_law_letters : FnScope ["pool", "size", "signs", "place"] ["pool", "size"] (defScope s_law_letters) := ⟨rfl, rfl, rfl, by decide +kernel, rfl, by decide +kernel, by decide +kernel⟩
abbrev s_law_text : Stmt := topS 46
theorem sc_law_text : FnScope ["pool", "before", "gaps", "behind", "spots", "gap"] ["pool", "before", "gaps", "behind"] (defScope s_law_text) := ⟨rfl, rfl, rfl, by decide +kernel, rfl, by decide +kernel, by decide +kernel⟩
abbrev s_law_alone : Stmt := topS 47
theorem sc_law_alone : FnScope ["line", "spots", "effect_here", "left", "right", "things", "place_here", "found", "ends", "done", "spot", "thing"] ["line", "spots", "effect_here"] (defScope s_law_alone) := ⟨rfl, rfl, rfl, by decide +kernel, rfl, by decide +kernel, by decide +kernel⟩
abbrev s_Editor___init__ : Stmt := inClass (topS 32) 1
theorem sc_Editor___init__ : FnScope ["self", "text", "cursors"] ["self", "text", "cursors"] (defScope s_Editor___init__) := ⟨rfl, rfl, rfl, by decide +kernel, rfl, by decide +kernel, by decide +kernel⟩
abbrev s_Editor_state_behind : Stmt := inClass (topS 32) 8
theorem sc_Editor_state_behind : FnScope ["self", "state", "key"] ["self", "state", "key"] (defScope s_Editor_state_behind) := ⟨rfl, rfl, rfl, by decide +kernel, rfl, by decide +kernel, by decide +kernel⟩
abbrev s_Editor_check_meeting : Stmt := inClass (topS 32) 9
theorem sc_Editor_check_meeting : FnScope ["self", "state", "later", "number"] ["self", "state", "later", "number"] (defScope s_Editor_check_meeting) := ⟨rfl, rfl, rfl, by decide +kernel, rfl, by decide +kernel, by decide +kernel⟩
abbrev s_Editor_state_after : Stmt := inClass (topS 32) 10
theorem sc_Editor_state_after : FnScope ["self", "lists", "keys", "state", "index", "key", "later"] ["self", "lists"] (defScope s_Editor_state_after) := ⟨rfl, rfl, rfl, by decide +kernel, rfl, by decide +kernel, by decide +kernel⟩
abbrev s_Editor_press_all : Stmt := inClass (topS 32) 11
theorem sc_Editor_press_all : FnScope ["self", "lists", "state"] ["self", "lists"] (defScope s_Editor_press_all) := ⟨rfl, rfl, rfl, by decide +kernel, rfl, by decide +kernel, by decide +kernel⟩
abbrev s_Editor_press : Stmt := inClass (topS 32) 12
theorem sc_Editor_press : FnScope ["self", "keys"] ["self", "keys"] (defScope s_Editor_press) := ⟨rfl, rfl, rfl, by decide +kernel, rfl, by decide +kernel, by decide +kernel⟩
abbrev s_effect_of : Stmt := topS 35
theorem sc_effect_of : FnScope ["keys", "left_reach", "right_reach", "left", "right"] ["keys"] (defScope s_effect_of) := ⟨rfl, rfl, rfl, by decide +kernel, rfl, by decide +kernel, by decide +kernel⟩
abbrev s_far_effect : Stmt := topS 40
theorem sc_far_effect : FnScope ["keys"] ["keys"] (defScope s_far_effect) := ⟨rfl, rfl, rfl, by decide +kernel, rfl, by decide +kernel, by decide +kernel⟩
abbrev s_sums_of : Stmt := topS 36
theorem sc_sums_of : FnScope ["keys", "sums", "key"] ["keys"] (defScope s_sums_of) := ⟨rfl, rfl, rfl, by decide +kernel, rfl, by decide +kernel, by decide +kernel⟩
abbrev s_depth_of : Stmt := topS 38
theorem sc_depth_of : FnScope ["keys"] ["keys"] (defScope s_depth_of) := ⟨rfl, rfl, rfl, by decide +kernel, rfl, by decide +kernel, by decide +kernel⟩
abbrev s_Editor_text_now : Stmt := inClass (topS 32) 5
theorem sc_Editor_text_now : FnScope ["self"] ["self"] (defScope s_Editor_text_now) := ⟨rfl, rfl, rfl, by decide +kernel, rfl, by decide +kernel, by decide +kernel⟩
abbrev s_Editor_cursors_now : Stmt := inClass (topS 32) 6
theorem sc_Editor_cursors_now : FnScope ["self"] ["self"] (defScope s_Editor_cursors_now) := ⟨rfl, rfl, rfl, by decide +kernel, rfl, by decide +kernel, by decide +kernel⟩
abbrev s_law_far_right : Stmt := topS 48
theorem sc_law_far_right : FnScope ["pool", "strokes", "left", "right", "least", "gaps", "line", "spots", "due", "desk", "turn"] ["pool", "strokes"] (defScope s_law_far_right) := ⟨rfl, rfl, rfl, by decide +kernel, rfl, by decide +kernel, by decide +kernel⟩
abbrev s_layout_of : Stmt := topS 27
theorem sc_layout_of : FnScope ["text", "cursors", "gaps", "one", "other"] ["text", "cursors"] (defScope s_layout_of) := ⟨rfl, rfl, rfl, by decide +kernel, rfl, by decide +kernel, by decide +kernel⟩
abbrev s_net_of : Stmt := topS 39
theorem sc_net_of : FnScope ["keys"] ["keys"] (defScope s_net_of) := ⟨rfl, rfl, rfl, by decide +kernel, rfl, by decide +kernel, by decide +kernel⟩
abbrev s_law_near_right : Stmt := topS 49
theorem sc_law_near_right : FnScope ["pool", "strokes", "depth_here", "size", "gaps", "line", "spots", "after", "due", "turn", "gap"] ["pool", "strokes"] (defScope s_law_near_right) := ⟨rfl, rfl, rfl, by decide +kernel, rfl, by decide +kernel, by decide +kernel⟩
abbrev s_law : Stmt := topS 50
theorem sc_law : FnScope ["script", "at", "pool", "turn", "strokes"] ["script"] (defScope s_law) := ⟨rfl, rfl, rfl, by decide +kernel, rfl, by decide +kernel, by decide +kernel⟩
structure Tx (K : PySem.W.Frag) (mg : Str → Option Value) (a : Nat → Addr) (g : Nat → FuncData) : Prop where
  m_law_pool : mg "_law_pool" = some (.ref (a 0))
  f_law_pool : Fun K "_law_pool" "_law_pool" s_law_pool (a 0) (g 0)
  m_is_text : mg "is_text" = some (.ref (a 1))
  f_is_text : Fun K "is_text" "is_text" s_is_text (a 1) (g 1)
  m_check_text : mg "check_text" = some (.ref (a 2))
  f_check_text : Fun K "check_text" "check_text" s_check_text (a 2) (g 2)
  m_is_integer : mg "is_integer" = some (.ref (a 3))
  f_is_integer : Fun K "is_integer" "is_integer" s_is_integer (a 3) (g 3)
  m_is_cursors : mg "is_cursors" = some (.ref (a 4))
  f_is_cursors : Fun K "is_cursors" "is_cursors" s_is_cursors (a 4) (g 4)
  m_check_cursors : mg "check_cursors" = some (.ref (a 5))
  f_check_cursors : Fun K "check_cursors" "check_cursors" s_check_cursors (a 5) (g 5)
  m_is_key : mg "is_key" = some (.ref (a 6))
  f_is_key : Fun K "is_key" "is_key" s_is_key (a 6) (g 6)
  m_is_keys : mg "is_keys" = some (.ref (a 7))
  f_is_keys : Fun K "is_keys" "is_keys" s_is_keys (a 7) (g 7)
  m_check_keys : mg "check_keys" = some (.ref (a 8))
  f_check_keys : Fun K "check_keys" "check_keys" s_check_keys (a 8) (g 8)
  m_stretches_of : mg "stretches_of" = some (.ref (a 9))
  f_stretches_of : Fun K "stretches_of" "stretches_of" s_stretches_of (a 9) (g 9)
  m_places_without_copies : mg "places_without_copies" = some (.ref (a 10))
  f_places_without_copies : Fun K "places_without_copies" "places_without_copies" s_places_without_copies (a 10) (g 10)
  m_state_with : mg "state_with" = some (.ref (a 11))
  f_state_with : Fun K "state_with" "state_with" s_state_with (a 11) (g 11)
  m_step_key : mg "step_key" = some (.ref (a 12))
  f_step_key : Fun K "step_key" "step_key" s_step_key (a 12) (g 12)
  m_pressed : mg "pressed" = some (.ref (a 13))
  f_pressed : Fun K "pressed" "pressed" s_pressed (a 13) (g 13)
  m_law_draw : mg "_law_draw" = some (.ref (a 14))
  f_law_draw : Fun K "_law_draw" "_law_draw" s_law_draw (a 14) (g 14)
  m_law_strokes : mg "_law_strokes" = some (.ref (a 15))
  f_law_strokes : Fun K "_law_strokes" "_law_strokes" s_law_strokes (a 15) (g 15)
  m_far_run : mg "far_run" = some (.ref (a 16))
  f_far_run : Fun K "far_run" "far_run" s_far_run (a 16) (g 16)
  m_reach_of : mg "reach_of" = some (.ref (a 17))
  f_reach_of : Fun K "reach_of" "reach_of" s_reach_of (a 17) (g 17)
  m_law_letters : mg "_law_letters" = some (.ref (a 18))
  f_law_letters : Fun K "_law_letters" "_law_letters" s_law_letters (a 18) (g 18)
  m_law_text : mg "_law_text" = some (.ref (a 19))
  f_law_text : Fun K "_law_text" "_law_text" s_law_text (a 19) (g 19)
  m_law_alone : mg "_law_alone" = some (.ref (a 20))
  f_law_alone : Fun K "_law_alone" "_law_alone" s_law_alone (a 20) (g 20)
  f_Editor___init__ : FunT K "__init__" "Editor.__init__" s_Editor___init__ 2 (a 21) (g 21)
  f_Editor_state_behind : Fun K "state_behind" "Editor.state_behind" s_Editor_state_behind (a 22) (g 22)
  f_Editor_check_meeting : Fun K "check_meeting" "Editor.check_meeting" s_Editor_check_meeting (a 23) (g 23)
  f_Editor_state_after : Fun K "state_after" "Editor.state_after" s_Editor_state_after (a 24) (g 24)
  f_Editor_press_all : Fun K "press_all" "Editor.press_all" s_Editor_press_all (a 25) (g 25)
  f_Editor_press : Fun K "press" "Editor.press" s_Editor_press (a 26) (g 26)
  m_effect_of : mg "effect_of" = some (.ref (a 27))
  f_effect_of : Fun K "effect_of" "effect_of" s_effect_of (a 27) (g 27)
  m_far_effect : mg "far_effect" = some (.ref (a 28))
  f_far_effect : Fun K "far_effect" "far_effect" s_far_effect (a 28) (g 28)
  m_sums_of : mg "sums_of" = some (.ref (a 29))
  f_sums_of : Fun K "sums_of" "sums_of" s_sums_of (a 29) (g 29)
  m_depth_of : mg "depth_of" = some (.ref (a 30))
  f_depth_of : Fun K "depth_of" "depth_of" s_depth_of (a 30) (g 30)
  f_Editor_text_now : Fun K "text_now" "Editor.text_now" s_Editor_text_now (a 31) (g 31)
  f_Editor_cursors_now : Fun K "cursors_now" "Editor.cursors_now" s_Editor_cursors_now (a 32) (g 32)
  m_law_far_right : mg "_law_far_right" = some (.ref (a 33))
  f_law_far_right : Fun K "_law_far_right" "_law_far_right" s_law_far_right (a 33) (g 33)
  m_layout_of : mg "layout_of" = some (.ref (a 34))
  f_layout_of : Fun K "layout_of" "layout_of" s_layout_of (a 34) (g 34)
  m_net_of : mg "net_of" = some (.ref (a 35))
  f_net_of : Fun K "net_of" "net_of" s_net_of (a 35) (g 35)
  m_law_near_right : mg "_law_near_right" = some (.ref (a 36))
  f_law_near_right : Fun K "_law_near_right" "_law_near_right" s_law_near_right (a 36) (g 36)
  m_law : mg "law" = some (.ref (a 37))
  f_law : Fun K "law" "law" s_law (a 37) (g 37)
  cl_InvalidCursors : ∃ C bm, mg "InvalidCursors" = some (.ref C) ∧ PySem.W.excIn K C [.type "ValueError", .type "Exception", .type "BaseException", .type "object"] "ValueError.__new__" = true ∧ PySem.W.keepIn K (.ref C) = true ∧ PySem.W.subIn K (.ref C) (.type "BaseException") = some true ∧ PySem.W.typeIn K (.ref C) = some (.type "type") ∧ bm = C
  cl_InvalidKeys : ∃ C bm, mg "InvalidKeys" = some (.ref C) ∧ PySem.W.excIn K C [.type "ValueError", .type "Exception", .type "BaseException", .type "object"] "ValueError.__new__" = true ∧ PySem.W.keepIn K (.ref C) = true ∧ PySem.W.subIn K (.ref C) (.type "BaseException") = some true ∧ PySem.W.typeIn K (.ref C) = some (.type "type") ∧ bm = C
  cl_InvalidText : ∃ C bm, mg "InvalidText" = some (.ref C) ∧ PySem.W.excIn K C [.type "ValueError", .type "Exception", .type "BaseException", .type "object"] "ValueError.__new__" = true ∧ PySem.W.keepIn K (.ref C) = true ∧ PySem.W.subIn K (.ref C) (.type "BaseException") = some true ∧ PySem.W.typeIn K (.ref C) = some (.type "type") ∧ bm = C
  cx_BACKSPACE : ∃ t, mg "BACKSPACE" = some (.str (S [45]) t)
  cx_CAPITALS : ∃ t, mg "CAPITALS" = some (.str cUp t)
  cx_DELETE : ∃ t, mg "DELETE" = some (.str (S [35]) t)
  cx_LEFT : ∃ t, mg "LEFT" = some (.str (S [60]) t)
  cx_LETTERS : ∃ t, mg "LETTERS" = some (.str cLow t)
  cx_RIGHT : ∃ t, mg "RIGHT" = some (.str (S [62]) t)
  z_abs : mg "abs" = none
  z_all : mg "all" = none
  z_bool : mg "bool" = none
  z_enumerate : mg "enumerate" = none
  z_int : mg "int" = none
  z_isinstance : mg "isinstance" = none
  z_len : mg "len" = none
  z_max : mg "max" = none
  z_min : mg "min" = none
  z_range : mg "range" = none
  z_str : mg "str" = none
  z_tuple : mg "tuple" = none
  z_zip : mg "zip" = none
  cf_past : ClF K mg ["Editor"] "past" 1
  cf_state : ClF K mg ["Editor"] "state" 0
  mk_Editor : MkF K mg "Editor" (a 21)
  me_Editor_check_meeting : MeF K mg "Editor" "check_meeting" (a 23)
  me_Editor_press : MeF K mg "Editor" "press" (a 26)
  me_Editor_press_all : MeF K mg "Editor" "press_all" (a 25)
  me_Editor_state_after : MeF K mg "Editor" "state_after" (a 24)
  me_Editor_state_behind : MeF K mg "Editor" "state_behind" (a 22)
  pp_Editor_cursors_now : PpF K mg "Editor" "cursors_now" (a 32)
  pp_Editor_text_now : PpF K mg "Editor" "text_now" (a 31)
section
variable {P : Program} {w : World} {K : PySem.W.Frag} {mg : Str → Option Value} {base : Heap} {a : Nat → Addr} {g : Nat → FuncData}
theorem Tx.k_law_pool (T : Tx K mg a g) : PySem.W.keepIn K (.ref (a 0)) = true := T.f_law_pool.kp
theorem Tx.b_law_pool (T : Tx K mg a g) : Binds K (g 0) ["script", "at"] [] := T.f_law_pool.binds fun _ _ _ _ _ _ us hl => match us, hl with | [_, _], _ => rfl
theorem Tx.k_is_text (T : Tx K mg a g) : PySem.W.keepIn K (.ref (a 1)) = true := T.f_is_text.kp
theorem Tx.b_is_text (T : Tx K mg a g) : Binds K (g 1) ["value"] [] := T.f_is_text.binds fun _ _ _ _ _ _ us hl => match us, hl with | [_], _ => rfl
theorem Tx.k_check_text (T : Tx K mg a g) : PySem.W.keepIn K (.ref (a 2)) = true := T.f_check_text.kp
theorem Tx.b_check_text (T : Tx K mg a g) : Binds K (g 2) ["text"] [] := T.f_check_text.binds fun _ _ _ _ _ _ us hl => match us, hl with | [_], _ => rfl
theorem Tx.k_is_integer (T : Tx K mg a g) : PySem.W.keepIn K (.ref (a 3)) = true := T.f_is_integer.kp
theorem Tx.b_is_integer (T : Tx K mg a g) : Binds K (g 3) ["value", "low", "high"] [] := T.f_is_integer.binds fun _ _ _ _ _ _ us hl => match us, hl with | [_, _, _], _ => rfl
theorem Tx.k_is_cursors (T : Tx K mg a g) : PySem.W.keepIn K (.ref (a 4)) = true := T.f_is_cursors.kp
theorem Tx.b_is_cursors (T : Tx K mg a g) : Binds K (g 4) ["text", "value"] [] := T.f_is_cursors.binds fun _ _ _ _ _ _ us hl => match us, hl with | [_, _], _ => rfl
theorem Tx.k_check_cursors (T : Tx K mg a g) : PySem.W.keepIn K (.ref (a 5)) = true := T.f_check_cursors.kp
theorem Tx.b_check_cursors (T : Tx K mg a g) : Binds K (g 5) ["text", "cursors"] [] := T.f_check_cursors.binds fun _ _ _ _ _ _ us hl => match us, hl with | [_, _], _ => rfl
theorem Tx.k_is_key (T : Tx K mg a g) : PySem.W.keepIn K (.ref (a 6)) = true := T.f_is_key.kp
theorem Tx.b_is_key (T : Tx K mg a g) : Binds K (g 6) ["value"] [] := T.f_is_key.binds fun _ _ _ _ _ _ us hl => match us, hl with | [_], _ => rfl
theorem Tx.k_is_keys (T : Tx K mg a g) : PySem.W.keepIn K (.ref (a 7)) = true := T.f_is_keys.kp
theorem Tx.b_is_keys (T : Tx K mg a g) : Binds K (g 7) ["value"] [] := T.f_is_keys.binds fun _ _ _ _ _ _ us hl => match us, hl with | [_], _ => rfl
theorem Tx.k_check_keys (T : Tx K mg a g) : PySem.W.keepIn K (.ref (a 8)) = true := T.f_check_keys.kp
theorem Tx.b_check_keys (T : Tx K mg a g) : Binds K (g 8) ["keys"] [] := T.f_check_keys.binds fun _ _ _ _ _ _ us hl => match us, hl with | [_], _ => rfl
theorem Tx.k_stretches_of (T : Tx K mg a g) : PySem.W.keepIn K (.ref (a 9)) = true := T.f_stretches_of.kp
theorem Tx.b_stretches_of (T : Tx K mg a g) : Binds K (g 9) ["text", "cursors"] [] := T.f_stretches_of.binds fun _ _ _ _ _ _ us hl => match us, hl with | [_, _], _ => rfl
theorem Tx.k_places_without_copies (T : Tx K mg a g) : PySem.W.keepIn K (.ref (a 10)) = true := T.f_places_without_copies.kp
theorem Tx.b_places_without_copies (T : Tx K mg a g) : Binds K (g 10) ["places"] [] := T.f_places_without_copies.binds fun _ _ _ _ _ _ us hl => match us, hl with | [_], _ => rfl
theorem Tx.k_state_with (T : Tx K mg a g) : PySem.W.keepIn K (.ref (a 11)) = true := T.f_state_with.kp
theorem Tx.b_state_with (T : Tx K mg a g) : Binds K (g 11) ["stretches"] [] := T.f_state_with.binds fun _ _ _ _ _ _ us hl => match us, hl with | [_], _ => rfl
theorem Tx.k_step_key (T : Tx K mg a g) : PySem.W.keepIn K (.ref (a 12)) = true := T.f_step_key.kp
theorem Tx.b_step_key (T : Tx K mg a g) : Binds K (g 12) ["text", "cursors", "key"] [] := T.f_step_key.binds fun _ _ _ _ _ _ us hl => match us, hl with | [_, _, _], _ => rfl
theorem Tx.k_pressed (T : Tx K mg a g) : PySem.W.keepIn K (.ref (a 13)) = true := T.f_pressed.kp
theorem Tx.b_pressed (T : Tx K mg a g) : Binds K (g 13) ["text", "cursors", "keys"] [] := T.f_pressed.binds fun _ _ _ _ _ _ us hl => match us, hl with | [_, _, _], _ => rfl
theorem Tx.k_law_draw (T : Tx K mg a g) : PySem.W.keepIn K (.ref (a 14)) = true := T.f_law_draw.kp
theorem Tx.b_law_draw (T : Tx K mg a g) : Binds K (g 14) ["pool", "many"] [] := T.f_law_draw.binds fun _ _ _ _ _ _ us hl => match us, hl with | [_, _], _ => rfl
theorem Tx.k_law_strokes (T : Tx K mg a g) : PySem.W.keepIn K (.ref (a 15)) = true := T.f_law_strokes.kp
theorem Tx.b_law_strokes (T : Tx K mg a g) : Binds K (g 15) ["pool", "most"] [] := T.f_law_strokes.binds fun _ _ _ _ _ _ us hl => match us, hl with | [_, _], _ => rfl
theorem Tx.k_far_run (T : Tx K mg a g) : PySem.W.keepIn K (.ref (a 16)) = true := T.f_far_run.kp
theorem Tx.b_far_run (T : Tx K mg a g) : Binds K (g 16) ["keys"] [] := T.f_far_run.binds fun _ _ _ _ _ _ us hl => match us, hl with | [_], _ => rfl
theorem Tx.k_reach_of (T : Tx K mg a g) : PySem.W.keepIn K (.ref (a 17)) = true := T.f_reach_of.kp
theorem Tx.b_reach_of (T : Tx K mg a g) : Binds K (g 17) ["keys"] [] := T.f_reach_of.binds fun _ _ _ _ _ _ us hl => match us, hl with | [_], _ => rfl
theorem Tx.k_law_letters (T : Tx K mg a g) : PySem.W.keepIn K (.ref (a 18)) = true := T.f_law_letters.kp
theorem Tx.b_law_letters (T : Tx K mg a g) : Binds K (g 18) ["pool", "size"] [] := T.f_law_letters.binds fun _ _ _ _ _ _ us hl => match us, hl with | [_, _], _ => rfl
theorem Tx.k_law_text (T : Tx K mg a g) : PySem.W.keepIn K (.ref (a 19)) = true := T.f_law_text.kp
theorem Tx.b_law_text (T : Tx K mg a g) : Binds K (g 19) ["pool", "before", "gaps", "behind"] [] := T.f_law_text.binds fun _ _ _ _ _ _ us hl => match us, hl with | [_, _, _, _], _ => rfl
theorem Tx.k_law_alone (T : Tx K mg a g) : PySem.W.keepIn K (.ref (a 20)) = true := T.f_law_alone.kp
theorem Tx.b_law_alone (T : Tx K mg a g) : Binds K (g 20) ["line", "spots", "effect_here"] [] := T.f_law_alone.binds fun _ _ _ _ _ _ us hl => match us, hl with | [_, _, _], _ => rfl
theorem Tx.k_Editor___init__ (T : Tx K mg a g) : PySem.W.keepIn K (.ref (a 21)) = true := T.f_Editor___init__.kp
theorem Tx.b_Editor___init__ (T : Tx K mg a g) : Binds K (g 21) ["self", "text", "cursors"] [] := T.f_Editor___init__.binds fun _ _ _ _ _ _ _ us its hl hi => match us, its, hl, hi with | [_, _, _], [_, _], _, _ => ⟨_, rfl, rfl⟩
theorem Tx.k_Editor_state_behind (T : Tx K mg a g) : PySem.W.keepIn K (.ref (a 22)) = true := T.f_Editor_state_behind.kp
theorem Tx.b_Editor_state_behind (T : Tx K mg a g) : Binds K (g 22) ["self", "state", "key"] [] := T.f_Editor_state_behind.binds fun _ _ _ _ _ _ us hl => match us, hl with | [_, _, _], _ => rfl
theorem Tx.k_Editor_check_meeting (T : Tx K mg a g) : PySem.W.keepIn K (.ref (a 23)) = true := T.f_Editor_check_meeting.kp
theorem Tx.b_Editor_check_meeting (T : Tx K mg a g) : Binds K (g 23) ["self", "state", "later", "number"] [] := T.f_Editor_check_meeting.binds fun _ _ _ _ _ _ us hl => match us, hl with | [_, _, _, _], _ => rfl
theorem Tx.k_Editor_state_after (T : Tx K mg a g) : PySem.W.keepIn K (.ref (a 24)) = true := T.f_Editor_state_after.kp
theorem Tx.b_Editor_state_after (T : Tx K mg a g) : Binds K (g 24) ["self", "lists"] [] := T.f_Editor_state_after.binds fun _ _ _ _ _ _ us hl => match us, hl with | [_, _], _ => rfl
theorem Tx.k_Editor_press_all (T : Tx K mg a g) : PySem.W.keepIn K (.ref (a 25)) = true := T.f_Editor_press_all.kp
theorem Tx.b_Editor_press_all (T : Tx K mg a g) : BVp K (g 25) ["self"] "lists" := Dl.Fun.bvp T.f_Editor_press_all fun _ _ _ _ _ _ => StX.bind_star1 (B := fun l => bindArgs _ ⟨l, []⟩) (fun _ => rfl) (fun _ _ _ => rfl)
theorem Tx.k_Editor_press (T : Tx K mg a g) : PySem.W.keepIn K (.ref (a 26)) = true := T.f_Editor_press.kp
theorem Tx.b_Editor_press (T : Tx K mg a g) : Binds K (g 26) ["self", "keys"] [] := T.f_Editor_press.binds fun _ _ _ _ _ _ us hl => match us, hl with | [_, _], _ => rfl
theorem Tx.k_effect_of (T : Tx K mg a g) : PySem.W.keepIn K (.ref (a 27)) = true := T.f_effect_of.kp
theorem Tx.b_effect_of (T : Tx K mg a g) : Binds K (g 27) ["keys"] [] := T.f_effect_of.binds fun _ _ _ _ _ _ us hl => match us, hl with | [_], _ => rfl
theorem Tx.k_far_effect (T : Tx K mg a g) : PySem.W.keepIn K (.ref (a 28)) = true := T.f_far_effect.kp
theorem Tx.b_far_effect (T : Tx K mg a g) : Binds K (g 28) ["keys"] [] := T.f_far_effect.binds fun _ _ _ _ _ _ us hl => match us, hl with | [_], _ => rfl
theorem Tx.k_sums_of (T : Tx K mg a g) : PySem.W.keepIn K (.ref (a 29)) = true := T.f_sums_of.kp
theorem Tx.b_sums_of (T : Tx K mg a g) : Binds K (g 29) ["keys"] [] := T.f_sums_of.binds fun _ _ _ _ _ _ us hl => match us, hl with | [_], _ => rfl
theorem Tx.k_depth_of (T : Tx K mg a g) : PySem.W.keepIn K (.ref (a 30)) = true := T.f_depth_of.kp
theorem Tx.b_depth_of (T : Tx K mg a g) : Binds K (g 30) ["keys"] [] := T.f_depth_of.binds fun _ _ _ _ _ _ us hl => match us, hl with | [_], _ => rfl
theorem Tx.k_Editor_text_now (T : Tx K mg a g) : PySem.W.keepIn K (.ref (a 31)) = true := T.f_Editor_text_now.kp
theorem Tx.b_Editor_text_now (T : Tx K mg a g) : Binds K (g 31) ["self"] [] := T.f_Editor_text_now.binds fun _ _ _ _ _ _ us hl => match us, hl with | [_], _ => rfl
theorem Tx.k_Editor_cursors_now (T : Tx K mg a g) : PySem.W.keepIn K (.ref (a 32)) = true := T.f_Editor_cursors_now.kp
theorem Tx.b_Editor_cursors_now (T : Tx K mg a g) : Binds K (g 32) ["self"] [] := T.f_Editor_cursors_now.binds fun _ _ _ _ _ _ us hl => match us, hl with | [_], _ => rfl
theorem Tx.k_law_far_right (T : Tx K mg a g) : PySem.W.keepIn K (.ref (a 33)) = true := T.f_law_far_right.kp
theorem Tx.b_law_far_right (T : Tx K mg a g) : Binds K (g 33) ["pool", "strokes"] [] := T.f_law_far_right.binds fun _ _ _ _ _ _ us hl => match us, hl with | [_, _], _ => rfl
theorem Tx.k_layout_of (T : Tx K mg a g) : PySem.W.keepIn K (.ref (a 34)) = true := T.f_layout_of.kp
theorem Tx.b_layout_of (T : Tx K mg a g) : Binds K (g 34) ["text", "cursors"] [] := T.f_layout_of.binds fun _ _ _ _ _ _ us hl => match us, hl with | [_, _], _ => rfl
theorem Tx.k_net_of (T : Tx K mg a g) : PySem.W.keepIn K (.ref (a 35)) = true := T.f_net_of.kp
theorem Tx.b_net_of (T : Tx K mg a g) : Binds K (g 35) ["keys"] [] := T.f_net_of.binds fun _ _ _ _ _ _ us hl => match us, hl with | [_], _ => rfl
theorem Tx.k_law_near_right (T : Tx K mg a g) : PySem.W.keepIn K (.ref (a 36)) = true := T.f_law_near_right.kp
theorem Tx.b_law_near_right (T : Tx K mg a g) : Binds K (g 36) ["pool", "strokes"] [] := T.f_law_near_right.binds fun _ _ _ _ _ _ us hl => match us, hl with | [_, _], _ => rfl
theorem Tx.k_law (T : Tx K mg a g) : PySem.W.keepIn K (.ref (a 37)) = true := T.f_law.kp
theorem Tx.b_law (T : Tx K mg a g) : Binds K (g 37) ["script"] [] := T.f_law.binds fun _ _ _ _ _ _ us hl => match us, hl with | [_], _ => rfl
theorem ok_law_pool (T : Tx K mg a g) : FnG P w K mg base 1 (a 0) (g 0) ["script", "at"] F_law_pool := by
  refine fnG_of T.f_law_pool sc_law_pool fun cdv A outer s H E hr hgd => ?_
  have hN := sc_law_pool.nd
  exact (sb_cons (ss_set 2 (se_if (st_cmp (o_lt) (se_var 1) (se_scrLen T.z_len (se_var 0))) (se_scrAt (se_var 0) (se_var 1)) se_int) hN)
    (sb_one (ss_ret (se_loc (sl_lst (sa_cons (se_blt rfl (o_max rfl) T.z_max (sa_cons se_int (sa_cons (se_op o_sub (se_blt rfl (o_abs) T.z_abs (sa_cons (se_var 2) sa_nil)) (se_op o_pow se_int se_int)) sa_nil))) (sa_cons (se_op o_add (se_op o_add (se_op o_mul (se_op o_mod (se_var 2) (se_op o_add (se_op o_pow se_int se_int) se_int)) se_int) (se_op o_mul se_int (se_var 1))) se_int) (sa_cons se_int sa_nil))))))))
theorem ok_is_text (T : Tx K mg a g) : FnG P w K mg base 1 (a 1) (g 1) ["value"] F_is_text := by
  obtain ⟨_, c_CAPITALS⟩ := T.cx_CAPITALS
  obtain ⟨_, c_LETTERS⟩ := T.cx_LETTERS
  refine fnG_of T.f_is_text sc_is_text fun cdv A outer s H E hr hgd => ?_
  have hN := sc_is_text.nd
  exact (sb_one (ss_ret (se_and (se_isi T.z_isinstance T.z_str rfl (by decide) (se_var 0)) (se_one (se_blt rfl (o_all rfl) T.z_all (sa_cons (se_dat (sl_lcw [("sign", 1)] rfl hN (si_it (se_var 0)) (by show blkC ["value", "sign"] (defScope s_is_text) _ [("sign", 1)] = true; decide +kernel) (fun s H C cl fp => (sg_nm 1 hN)) (fun s H C cl fp => sts_nil) (fun s H C cl fp => (se_or (se_cmp (o_in) (se_var 1) (se_gstr c_LETTERS)) (se_one (se_cmp (o_in) (se_var 1) (se_gstr c_CAPITALS))))))) sa_nil))))))
theorem ok_check_text (T : Tx K mg a g) (G_is_text : FnG P w K mg base 1 (a 1) (g 1) ["value"] F_is_text) : FnG P w K mg base 2 (a 2) (g 2) ["text"] F_check_text := by
  obtain ⟨_, _, g_InvalidText, x_InvalidText, kc_InvalidText, sb_InvalidText, ty_InvalidText, _⟩ := T.cl_InvalidText
  refine fnG_of T.f_check_text sc_check_text fun cdv A outer s H E hr hgd => ?_
  have hN := sc_check_text.nd
  exact (sb_one (ss_if (st_not (st_tru (sc_call (G_is_text.mono (by decide : 1 ≤ 1)) hr hgd (L2N.takes_of rfl rfl rfl rfl) T.m_is_text T.k_is_text T.b_is_text (sa_cons (se_var 0) sa_nil)))) (sb_one (ss_raise0 PySem.F.excBase_ValueError x_InvalidText g_InvalidText kc_InvalidText sb_InvalidText ty_InvalidText (L2N.takes_of rfl rfl rfl rfl))) sb_nil))
theorem ok_is_integer (T : Tx K mg a g) : FnG P w K mg base 1 (a 3) (g 3) ["value", "low", "high"] F_is_integer := by
  refine fnG_of T.f_is_integer sc_is_integer fun cdv A outer s H E hr hgd => ?_
  have hN := sc_is_integer.nd
  exact (sb_cons (ss_if (st_w (sw_or (st_not (st_tru (se_isi T.z_isinstance T.z_int rfl (by decide) (se_var 0)))) (sw_or1 (st_tru (se_isi T.z_isinstance T.z_bool rfl (by decide) (se_var 0)))))) (sb_one (ss_ret se_bl)) sb_nil)
    (sb_one (ss_ret (se_and (se_cmp (o_ge) (se_var 0) (se_var 1)) (se_one (se_or (se_cmp (o_is) (se_var 2) se_non) (se_one (se_cmp (o_le) (se_var 0) (se_var 2)))))))))
theorem ok_is_cursors (T : Tx K mg a g) (G_is_integer : FnG P w K mg base 1 (a 3) (g 3) ["value", "low", "high"] F_is_integer) : FnG P w K mg base 2 (a 4) (g 4) ["text", "value"] F_is_cursors := by
  refine fnG_of T.f_is_cursors sc_is_cursors fun cdv A outer s H E hr hgd => ?_
  have hN := sc_is_cursors.nd
  exact (sb_cons (ss_if (st_w (sw_or (st_not (st_tru (se_isi T.z_isinstance T.z_tuple rfl (by decide) (se_var 1)))) (sw_or1 (st_cmp (o_eq hr.units) (se_var 1) (se_tup sa_nil))))) (sb_one (ss_ret se_bl)) sb_nil)
    (sb_cons (ss_if (st_not (st_tru (se_blt rfl (o_all rfl) T.z_all (sa_cons (se_dat (sl_lcw [("cursor", 2)] rfl hN (si_it (se_var 1)) (by show blkC ["text", "value", "cursor", "one", "other"] (defScope s_is_cursors) _ [("cursor", 2)] = true; decide +kernel) (fun s H C cl fp => (sg_nm 2 hN)) (fun s H C cl fp => sts_nil) (fun s H C cl fp => (sc_call (G_is_integer.mono (by decide : 1 ≤ 1)) hr hgd takes0N T.m_is_integer T.k_is_integer T.b_is_integer (sa_cons (se_var 2) (sa_cons se_int (sa_cons (se_blt rfl (o_len) T.z_len (sa_cons (se_var 0) sa_nil)) sa_nil))))))) sa_nil)))) (sb_one (ss_ret se_bl)) sb_nil)
    (sb_one (ss_ret (se_blt rfl (o_all rfl) T.z_all (sa_cons (se_dat (sl_lcw [("one", 3), ("other", 4)] rfl hN (si_zip T.z_zip (sa_cons (se_var 1) (sa_cons (se_sl o_sl (se_var 1) (so_some se_int) so_no) sa_nil))) (by show blkC ["text", "value", "cursor", "one", "other"] (defScope s_is_cursors) _ [("one", 3), ("other", 4)] = true; decide +kernel) (fun s H C cl fp => (sg_tp (pgs_cons (sg_nm 3 hN) (pgs_cons (sg_nm 4 hN) pgs_nil)) rfl)) (fun s H C cl fp => sts_nil) (fun s H C cl fp => (se_cmp (o_lt) (se_var 3) (se_var 4))))) sa_nil))))))
theorem ok_check_cursors (T : Tx K mg a g) (G_is_cursors : FnG P w K mg base 2 (a 4) (g 4) ["text", "value"] F_is_cursors) : FnG P w K mg base 3 (a 5) (g 5) ["text", "cursors"] F_check_cursors := by
  obtain ⟨_, _, g_InvalidCursors, x_InvalidCursors, kc_InvalidCursors, sb_InvalidCursors, ty_InvalidCursors, _⟩ := T.cl_InvalidCursors
  refine fnG_of T.f_check_cursors sc_check_cursors fun cdv A outer s H E hr hgd => ?_
  have hN := sc_check_cursors.nd
  exact (sb_one (ss_if (st_not (st_tru (sc_call (G_is_cursors.mono (by decide : 2 ≤ 2)) hr hgd (L2N.takes_of rfl rfl rfl rfl) T.m_is_cursors T.k_is_cursors T.b_is_cursors (sa_cons (se_var 0) (sa_cons (se_var 1) sa_nil))))) (sb_one (ss_raise0 PySem.F.excBase_ValueError x_InvalidCursors g_InvalidCursors kc_InvalidCursors sb_InvalidCursors ty_InvalidCursors (L2N.takes_of rfl rfl rfl rfl))) sb_nil))
theorem ok_is_key (T : Tx K mg a g) : FnG P w K mg base 1 (a 6) (g 6) ["value"] F_is_key := by
  obtain ⟨_, c_BACKSPACE⟩ := T.cx_BACKSPACE
  obtain ⟨_, c_DELETE⟩ := T.cx_DELETE
  obtain ⟨_, c_LEFT⟩ := T.cx_LEFT
  obtain ⟨_, c_LETTERS⟩ := T.cx_LETTERS
  obtain ⟨_, c_RIGHT⟩ := T.cx_RIGHT
  refine fnG_of T.f_is_key sc_is_key fun cdv A outer s H E hr hgd => ?_
  have hN := sc_is_key.nd
  exact (sb_one (ss_ret (se_or (se_cmp (o_in) (se_var 0) (se_gstr c_LETTERS)) (se_one (se_cmp (o_in) (se_var 0) (se_tup (sa_cons (se_gstr c_BACKSPACE) (sa_cons (se_gstr c_DELETE) (sa_cons (se_gstr c_LEFT) (sa_cons (se_gstr c_RIGHT) sa_nil))))))))))
theorem ok_is_keys (T : Tx K mg a g) (G_is_key : FnG P w K mg base 1 (a 6) (g 6) ["value"] F_is_key) : FnG P w K mg base 2 (a 7) (g 7) ["value"] F_is_keys := by
  refine fnG_of T.f_is_keys sc_is_keys fun cdv A outer s H E hr hgd => ?_
  have hN := sc_is_keys.nd
  exact (sb_one (ss_ret (se_and (se_isi T.z_isinstance T.z_str rfl (by decide) (se_var 0)) (se_one (se_blt rfl (o_all rfl) T.z_all (sa_cons (se_dat (sl_lcw [("sign", 1)] rfl hN (si_it (se_var 0)) (by show blkC ["value", "sign"] (defScope s_is_keys) _ [("sign", 1)] = true; decide +kernel) (fun s H C cl fp => (sg_nm 1 hN)) (fun s H C cl fp => sts_nil) (fun s H C cl fp => (sc_call (G_is_key.mono (by decide : 1 ≤ 1)) hr hgd takes0N T.m_is_key T.k_is_key T.b_is_key (sa_cons (se_var 1) sa_nil))))) sa_nil))))))
theorem ok_check_keys (T : Tx K mg a g) (G_is_keys : FnG P w K mg base 2 (a 7) (g 7) ["value"] F_is_keys) : FnG P w K mg base 3 (a 8) (g 8) ["keys"] F_check_keys := by
  obtain ⟨_, _, g_InvalidKeys, x_InvalidKeys, kc_InvalidKeys, sb_InvalidKeys, ty_InvalidKeys, _⟩ := T.cl_InvalidKeys
  refine fnG_of T.f_check_keys sc_check_keys fun cdv A outer s H E hr hgd => ?_
  have hN := sc_check_keys.nd
  exact (sb_one (ss_if (st_not (st_tru (sc_call (G_is_keys.mono (by decide : 2 ≤ 2)) hr hgd (L2N.takes_of rfl rfl rfl rfl) T.m_is_keys T.k_is_keys T.b_is_keys (sa_cons (se_var 0) sa_nil)))) (sb_one (ss_raise0 PySem.F.excBase_ValueError x_InvalidKeys g_InvalidKeys kc_InvalidKeys sb_InvalidKeys ty_InvalidKeys (L2N.takes_of rfl rfl rfl rfl))) sb_nil))
theorem ok_stretches_of (T : Tx K mg a g) : FnG P w K mg base 1 (a 9) (g 9) ["text", "cursors"] F_stretches_of := by
  refine fnG_of T.f_stretches_of sc_stretches_of fun cdv A outer s H E hr hgd => ?_
  have hN := sc_stretches_of.nd
  exact (sb_cons (ss_set 2 (se_op o_add (se_op o_add (se_tup (sa_cons se_int sa_nil)) (se_var 1)) (se_tup (sa_cons (se_blt rfl (o_len) T.z_len (sa_cons (se_var 0) sa_nil)) sa_nil))) hN)
    (sb_one (ss_ret (se_dat (sl_lcw [("low", 3), ("high", 4)] rfl hN (si_zip T.z_zip (sa_cons (se_var 2) (sa_cons (se_sl o_sl (se_var 2) (so_some se_int) so_no) sa_nil))) (by show blkC ["text", "cursors", "bounds", "low", "high"] (defScope s_stretches_of) _ [("low", 3), ("high", 4)] = true; decide +kernel) (fun s H C cl fp => (sg_tp (pgs_cons (sg_nm 3 hN) (pgs_cons (sg_nm 4 hN) pgs_nil)) rfl)) (fun s H C cl fp => sts_nil) (fun s H C cl fp => (se_sl o_sl (se_var 0) (so_some (se_var 3)) (so_some (se_var 4)))))))))
theorem ok_places_without_copies (T : Tx K mg a g) : FnG P w K mg base 1 (a 10) (g 10) ["places"] F_places_without_copies := by
  refine fnG_of T.f_places_without_copies sc_places_without_copies fun cdv A outer s H E hr hgd => ?_
  have hN := sc_places_without_copies.nd
  exact (sb_cons (ss_set 1 (se_loc (sl_lst sa_nil)) hN)
    (sb_cons (ss_for (passes_of rfl) rfl (si_it (se_var 0)) (sg_nm 2 hN) (sb_one (ss_if (st_w (sw_or (st_cmp (o_eq hr.units) (se_var 1) (se_dat (sl_lst sa_nil))) (sw_or1 (st_cmp (o_ne hr.units) (se_ix o_ix (se_var 1) (se_un o_neg se_int)) (se_var 2))))) (sb_one (ss_expr (se_u PySem.F.slot_list_append PySem.F.type_list_append o_append (se_var 1) (sa_cons (se_var 2) sa_nil)))) sb_nil)))
    (sb_one (ss_ret (se_bty boot_tuple o_tuple T.z_tuple (sa_cons (se_var 1) sa_nil))))))
theorem ok_state_with (T : Tx K mg a g) (G_places_without_copies : FnG P w K mg base 1 (a 10) (g 10) ["places"] F_places_without_copies) : FnG P w K mg base 2 (a 11) (g 11) ["stretches"] F_state_with := by
  refine fnG_of T.f_state_with sc_state_with fun cdv A outer s H E hr hgd => ?_
  have hN := sc_state_with.nd
  exact (sb_cons (ss_set 1 (se_loc (sl_lst sa_nil)) hN)
    (sb_cons (ss_set 2 se_int hN)
    (sb_cons (ss_for (passes_of rfl) rfl (si_it (se_sl o_sl (se_var 0) so_no (so_some (se_un o_neg se_int)))) (sg_nm 3 hN) (sb_cons (ss_aug 2 o_iadd (se_blt rfl (o_len) T.z_len (sa_cons (se_var 3) sa_nil)) hN)
    (sb_one (ss_expr (se_u PySem.F.slot_list_append PySem.F.type_list_append o_append (se_var 1) (sa_cons (se_var 2) sa_nil))))))
    (sb_one (ss_ret (se_tup (sa_cons (se_m PySem.F.plainAttrs_str PySem.F.slot_str_join PySem.F.type_str_join o_join (se_str (by decide +kernel)) (sa_cons (se_var 0) sa_nil)) (sa_cons (sc_call (G_places_without_copies.mono (by decide : 1 ≤ 1)) hr hgd (L2N.takes_of rfl rfl rfl rfl) T.m_places_without_copies T.k_places_without_copies T.b_places_without_copies (sa_cons (se_var 1) sa_nil)) sa_nil))))))))
theorem ok_step_key (T : Tx K mg a g) (G_places_without_copies : FnG P w K mg base 1 (a 10) (g 10) ["places"] F_places_without_copies) (G_stretches_of : FnG P w K mg base 1 (a 9) (g 9) ["text", "cursors"] F_stretches_of) (G_state_with : FnG P w K mg base 2 (a 11) (g 11) ["stretches"] F_state_with) : FnG P w K mg base 3 (a 12) (g 12) ["text", "cursors", "key"] F_step_key := by
  obtain ⟨_, c_BACKSPACE⟩ := T.cx_BACKSPACE
  obtain ⟨_, c_DELETE⟩ := T.cx_DELETE
  obtain ⟨_, c_LEFT⟩ := T.cx_LEFT
  obtain ⟨_, c_RIGHT⟩ := T.cx_RIGHT
  refine fnG_of T.f_step_key sc_step_key fun cdv A outer s H E hr hgd => ?_
  have hN := sc_step_key.nd
  exact (sb_cons (ss_if (st_cmp (o_eq hr.units) (se_var 2) (se_gstr c_LEFT)) (sb_one (ss_ret (se_tup (sa_cons (se_var 0) (sa_cons (sc_call (G_places_without_copies.mono (by decide : 1 ≤ 2)) hr hgd (L2N.takes_of rfl rfl rfl rfl) T.m_places_without_copies T.k_places_without_copies T.b_places_without_copies (sa_cons (se_dat (sl_lcw [("cursor", 4)] rfl hN (si_it (se_var 1)) (by show blkC ["text", "cursors", "key", "stretches", "cursor", "stretch"] (defScope s_step_key) _ [("cursor", 4)] = true; decide +kernel) (fun s H C cl fp => (sg_nm 4 hN)) (fun s H C cl fp => sts_nil) (fun s H C cl fp => (se_blt rfl (o_max rfl) T.z_max (sa_cons se_int (sa_cons (se_op o_sub (se_var 4) se_int) sa_nil)))))) sa_nil)) sa_nil))))) sb_nil)
    (sb_cons (ss_if (st_cmp (o_eq hr.units) (se_var 2) (se_gstr c_RIGHT)) (sb_one (ss_ret (se_tup (sa_cons (se_var 0) (sa_cons (sc_call (G_places_without_copies.mono (by decide : 1 ≤ 2)) hr hgd (L2N.takes_of rfl rfl rfl rfl) T.m_places_without_copies T.k_places_without_copies T.b_places_without_copies (sa_cons (se_dat (sl_lcw [("cursor", 4)] rfl hN (si_it (se_var 1)) (by show blkC ["text", "cursors", "key", "stretches", "cursor", "stretch"] (defScope s_step_key) _ [("cursor", 4)] = true; decide +kernel) (fun s H C cl fp => (sg_nm 4 hN)) (fun s H C cl fp => sts_nil) (fun s H C cl fp => (se_blt rfl (o_min rfl) T.z_min (sa_cons (se_blt rfl (o_len) T.z_len (sa_cons (se_var 0) sa_nil)) (sa_cons (se_op o_add (se_var 4) se_int) sa_nil)))))) sa_nil)) sa_nil))))) sb_nil)
    (sb_cons (ss_set 3 (sc_call (G_stretches_of.mono (by decide : 1 ≤ 2)) hr hgd (L2N.takes_of rfl rfl rfl rfl) T.m_stretches_of T.k_stretches_of T.b_stretches_of (sa_cons (se_var 0) (sa_cons (se_var 1) sa_nil))) hN)
    (sb_cons (ss_if (st_cmp (o_eq hr.units) (se_var 2) (se_gstr c_DELETE)) (sb_one (ss_ret (sc_call (G_state_with.mono (by decide : 2 ≤ 2)) hr hgd (L2N.takes_of rfl rfl rfl rfl) T.m_state_with T.k_state_with T.b_state_with (sa_cons (se_op o_add (se_sl o_sl (se_var 3) so_no (so_some se_int)) (se_dat (sl_lcw [("stretch", 5)] rfl hN (si_it (se_sl o_sl (se_var 3) (so_some se_int) so_no)) (by show blkC ["text", "cursors", "key", "stretches", "cursor", "stretch"] (defScope s_step_key) _ [("stretch", 5)] = true; decide +kernel) (fun s H C cl fp => (sg_nm 5 hN)) (fun s H C cl fp => sts_nil) (fun s H C cl fp => (se_sl o_sl (se_var 5) (so_some se_int) so_no))))) sa_nil)))) sb_nil)
    (sb_cons (ss_if (st_cmp (o_eq hr.units) (se_var 2) (se_gstr c_BACKSPACE)) (sb_one (ss_ret (sc_call (G_state_with.mono (by decide : 2 ≤ 2)) hr hgd (L2N.takes_of rfl rfl rfl rfl) T.m_state_with T.k_state_with T.b_state_with (sa_cons (se_dat (sl_op o_addL (se_dat (sl_lcw [("stretch", 5)] rfl hN (si_it (se_sl o_sl (se_var 3) so_no (so_some (se_un o_neg se_int)))) (by show blkC ["text", "cursors", "key", "stretches", "cursor", "stretch"] (defScope s_step_key) _ [("stretch", 5)] = true; decide +kernel) (fun s H C cl fp => (sg_nm 5 hN)) (fun s H C cl fp => sts_nil) (fun s H C cl fp => (se_sl o_sl (se_var 5) so_no (so_some (se_un o_neg se_int)))))) (se_sl o_sl (se_var 3) (so_some (se_un o_neg se_int)) so_no))) sa_nil)))) sb_nil)
    (sb_one (ss_ret (sc_call (G_state_with.mono (by decide : 2 ≤ 2)) hr hgd (L2N.takes_of rfl rfl rfl rfl) T.m_state_with T.k_state_with T.b_state_with (sa_cons (se_dat (sl_op o_addL (se_dat (sl_lcw [("stretch", 5)] rfl hN (si_it (se_sl o_sl (se_var 3) so_no (so_some (se_un o_neg se_int)))) (by show blkC ["text", "cursors", "key", "stretches", "cursor", "stretch"] (defScope s_step_key) _ [("stretch", 5)] = true; decide +kernel) (fun s H C cl fp => (sg_nm 5 hN)) (fun s H C cl fp => sts_nil) (fun s H C cl fp => (se_op o_add (se_var 5) (se_var 2))))) (se_sl o_sl (se_var 3) (so_some (se_un o_neg se_int)) so_no))) sa_nil)))))))))
theorem ok_pressed (T : Tx K mg a g) (G_check_text : FnG P w K mg base 2 (a 2) (g 2) ["text"] F_check_text) (G_check_cursors : FnG P w K mg base 3 (a 5) (g 5) ["text", "cursors"] F_check_cursors) (G_check_keys : FnG P w K mg base 3 (a 8) (g 8) ["keys"] F_check_keys) (G_step_key : FnG P w K mg base 3 (a 12) (g 12) ["text", "cursors", "key"] F_step_key) : FnG P w K mg base 4 (a 13) (g 13) ["text", "cursors", "keys"] F_pressed := by
  refine fnG_of T.f_pressed sc_pressed fun cdv A outer s H E hr hgd => ?_
  have hN := sc_pressed.nd
  exact (sb_cons (ss_expr (sc_call (G_check_text.mono (by decide : 2 ≤ 3)) hr hgd (L2N.takes_of rfl rfl rfl rfl) T.m_check_text T.k_check_text T.b_check_text (sa_cons (se_var 0) sa_nil)))
    (sb_cons (ss_expr (sc_call (G_check_cursors.mono (by decide : 3 ≤ 3)) hr hgd (L2N.takes_of rfl rfl rfl rfl) T.m_check_cursors T.k_check_cursors T.b_check_cursors (sa_cons (se_var 0) (sa_cons (se_var 1) sa_nil))))
    (sb_cons (ss_expr (sc_call (G_check_keys.mono (by decide : 3 ≤ 3)) hr hgd (L2N.takes_of rfl rfl rfl rfl) T.m_check_keys T.k_check_keys T.b_check_keys (sa_cons (se_var 2) sa_nil)))
    (sb_cons (ss_set 3 (se_tup (sa_cons (se_var 0) (sa_cons (se_var 1) sa_nil))) hN)
    (sb_cons (ss_for (passes_of rfl) rfl (si_it (se_var 2)) (sg_nm 4 hN) (sb_one (ss_set 3 (sc_call (G_step_key.mono (by decide : 3 ≤ 3)) hr hgd (L2N.takes_of rfl rfl rfl rfl) T.m_step_key T.k_step_key T.b_step_key (sa_cons (se_ix o_ix (se_var 3) se_int) (sa_cons (se_ix o_ix (se_var 3) se_int) (sa_cons (se_var 4) sa_nil)))) hN)))
    (sb_one (ss_ret (se_var 3))))))))
theorem ok_law_draw (T : Tx K mg a g) : FnG P w K mg base 1 (a 14) (g 14) ["pool", "many"] F_law_draw := by
  refine fnG_of T.f_law_draw sc_law_draw fun cdv A outer s H E hr hgd => ?_
  have hN := sc_law_draw.nd
  exact (sb_cons (ss_if (st_cmp (o_gt) (se_ix o_ix (se_var 0) se_int) se_int) (sb_cons (ss_set 2 (se_op o_mod (se_ix o_ix (se_var 0) se_int) (se_var 1)) hN)
    (sb_cons (ss_setI (se_op o_div (se_ix o_ix (se_var 0) se_int) (se_var 1)) (se_var 0) se_int)
    (sb_one (ss_ret (se_var 2))))) sb_nil)
    (sb_cons (ss_setI (se_op o_add (se_ix o_ix (se_var 0) se_int) se_int) (se_var 0) se_int)
    (sb_cons (ss_set 3 (se_op o_mod (se_op o_pow (se_op o_add (se_ix o_ix (se_var 0) se_int) (se_op o_mul se_int (se_ix o_ix (se_var 0) se_int))) se_int) (se_op o_add (se_op o_pow se_int se_int) se_int)) hN)
    (sb_cons (ss_set 3 (se_op o_mod (se_op o_pow (se_op o_add (se_var 3) (se_op o_mul se_int (se_ix o_ix (se_var 0) se_int))) se_int) (se_op o_add (se_op o_pow se_int se_int) se_int)) hN)
    (sb_one (ss_ret (se_op o_mod (se_op o_div (se_var 3) se_int) (se_var 1))))))))
theorem ok_law_strokes (T : Tx K mg a g) (G_law_draw : FnG P w K mg base 1 (a 14) (g 14) ["pool", "many"] F_law_draw) : FnG P w K mg base 2 (a 15) (g 15) ["pool", "most"] F_law_strokes := by
  refine fnG_of T.f_law_strokes sc_law_strokes fun cdv A outer s H E hr hgd => ?_
  have hN := sc_law_strokes.nd
  exact (sb_cons (ss_set 2 (se_ix o_ix (se_dat (sl_lst (sa_cons (se_str (by decide +kernel)) (sa_cons (se_str (by decide +kernel)) (sa_cons (se_str (by decide +kernel)) (sa_cons (se_str (by decide +kernel)) (sa_cons (se_str (by decide +kernel)) (sa_cons (se_str (by decide +kernel)) (sa_cons (se_str (by decide +kernel)) sa_nil))))))))) (sc_call (G_law_draw.mono (by decide : 1 ≤ 1)) hr hgd (L2N.takes_of rfl rfl rfl rfl) T.m_law_draw T.k_law_draw T.b_law_draw (sa_cons (se_var 0) (sa_cons se_int sa_nil)))) hN)
    (sb_cons (ss_set 3 (se_ix o_ix (se_dat (sl_lst (sa_cons (sc_call (G_law_draw.mono (by decide : 1 ≤ 1)) hr hgd (L2N.takes_of rfl rfl rfl rfl) T.m_law_draw T.k_law_draw T.b_law_draw (sa_cons (se_var 0) (sa_cons se_int sa_nil))) (sa_cons (sc_call (G_law_draw.mono (by decide : 1 ≤ 1)) hr hgd (L2N.takes_of rfl rfl rfl rfl) T.m_law_draw T.k_law_draw T.b_law_draw (sa_cons (se_var 0) (sa_cons (se_op o_add (se_var 1) se_int) sa_nil))) sa_nil)))) (sc_call (G_law_draw.mono (by decide : 1 ≤ 1)) hr hgd (L2N.takes_of rfl rfl rfl rfl) T.m_law_draw T.k_law_draw T.b_law_draw (sa_cons (se_var 0) (sa_cons se_int sa_nil)))) hN)
    (sb_one (ss_ret (se_m PySem.F.plainAttrs_str PySem.F.slot_str_join PySem.F.type_str_join o_join (se_str (by decide +kernel)) (sa_cons (se_dat (sl_lcw [("turn", 4)] rfl hN (si_rng1 T.z_range (sa_cons (se_var 3) sa_nil)) (by show blkC ["pool", "most", "signs", "many", "turn"] (defScope s_law_strokes) _ [("turn", 4)] = true; decide +kernel) (fun s H C cl fp => (sg_nm 4 hN)) (fun s H C cl fp => sts_nil) (fun s H C cl fp => (se_ix o_ix (se_var 2) (sc_call (G_law_draw.mono (by decide : 1 ≤ 1)) hr hgd takes0N T.m_law_draw T.k_law_draw T.b_law_draw (sa_cons (se_var 0) (sa_cons (se_blt rfl (o_len) T.z_len (sa_cons (se_var 2) sa_nil)) sa_nil))))))) sa_nil))))))
theorem ok_far_run (T : Tx K mg a g) : FnG P w K mg base 1 (a 16) (g 16) ["keys"] F_far_run := by
  refine fnG_of T.f_far_run sc_far_run fun cdv A outer s H E hr hgd => ?_
  have hN := sc_far_run.nd
  exact (sb_cons (ss_parN (is := [1, 2]) (sa_cons se_int (sa_cons se_int sa_nil)) (pg_tup rfl (pgs_cons (sg_nm 1 hN) (pgs_cons (sg_nm 2 hN) pgs_nil))))
    (sb_cons (ss_par2 3 4 (sa_cons (se_loc (sl_lst sa_nil)) (sa_cons (se_loc (sl_lst sa_nil)) sa_nil)) rfl hN)
    (sb_cons (ss_for (passes_of rfl) rfl (si_it (se_var 0)) (sg_nm 5 hN) (sb_cons (ss_if (st_w (sw_and (st_cmp (o_in) (se_var 5) (se_str (by decide +kernel))) (sw_and1 (st_cmp (o_eq hr.units) (se_var 3) (se_dat (sl_lst sa_nil)))))) (sb_cons (ss_aug 1 o_iadd se_int hN)
    (sb_one (ss_expr (se_u PySem.F.slot_list_append PySem.F.type_list_append o_append (se_var 3) (sa_cons (se_op o_sub se_int (se_var 1)) sa_nil))))) sb_nil)
    (sb_cons (ss_if (st_w (sw_and (st_cmp (o_in) (se_var 5) (se_str (by decide +kernel))) (sw_and1 (st_cmp (o_eq hr.units) (se_var 4) (se_dat (sl_lst sa_nil)))))) (sb_cons (ss_expr (se_u PySem.F.slot_list_append PySem.F.type_list_append o_append (se_var 4) (sa_cons (se_var 2) sa_nil)))
    (sb_one (ss_aug 2 o_iadd se_int hN))) sb_nil)
    (sb_one (ss_if (st_cmp (o_eq hr.units) (se_var 5) (se_str (by decide +kernel))) (sb_one (ss_expr (se_u0 PySem.F.slot_list_pop PySem.F.type_list_pop o_pop (se_var 3)))) (sb_one (ss_if (st_cmp (o_eq hr.units) (se_var 5) (se_str (by decide +kernel))) (sb_one (ss_expr (se_u0 PySem.F.slot_list_pop PySem.F.type_list_pop o_pop (se_var 4)))) (sb_one (ss_if (st_cmp (o_eq hr.units) (se_var 5) (se_str (by decide +kernel))) (sb_one (ss_expr (se_u PySem.F.slot_list_append PySem.F.type_list_append o_append (se_var 4) (sa_cons (se_u0 PySem.F.slot_list_pop PySem.F.type_list_pop o_pop (se_var 3)) sa_nil)))) (sb_one (ss_if (st_cmp (o_eq hr.units) (se_var 5) (se_str (by decide +kernel))) (sb_one (ss_expr (se_u PySem.F.slot_list_append PySem.F.type_list_append o_append (se_var 3) (sa_cons (se_u0 PySem.F.slot_list_pop PySem.F.type_list_pop o_pop (se_var 4)) sa_nil)))) (sb_one (ss_expr (se_u PySem.F.slot_list_append PySem.F.type_list_append o_append (se_var 3) (sa_cons (se_var 5) sa_nil)))))))))))))))
    (sb_one (ss_ret (se_tup (sa_cons (se_var 1) (sa_cons (se_var 2) (sa_cons (se_var 3) (sa_cons (se_var 4) sa_nil))))))))))
theorem ok_reach_of (T : Tx K mg a g) (G_check_keys : FnG P w K mg base 3 (a 8) (g 8) ["keys"] F_check_keys) (G_far_run : FnG P w K mg base 1 (a 16) (g 16) ["keys"] F_far_run) : FnG P w K mg base 4 (a 17) (g 17) ["keys"] F_reach_of := by
  refine fnG_of T.f_reach_of sc_reach_of fun cdv A outer s H E hr hgd => ?_
  have hN := sc_reach_of.nd
  exact (sb_cons (ss_expr (sc_call (G_check_keys.mono (by decide : 3 ≤ 3)) hr hgd (L2N.takes_of rfl rfl rfl rfl) T.m_check_keys T.k_check_keys T.b_check_keys (sa_cons (se_var 0) sa_nil)))
    (sb_one (ss_ret (se_sl o_sl (sc_call (G_far_run.mono (by decide : 1 ≤ 3)) hr hgd (L2N.takes_of rfl rfl rfl rfl) T.m_far_run T.k_far_run T.b_far_run (sa_cons (se_var 0) sa_nil)) so_no (so_some se_int)))))
theorem ok_law_letters (T : Tx K mg a g) (G_law_draw : FnG P w K mg base 1 (a 14) (g 14) ["pool", "many"] F_law_draw) : FnG P w K mg base 2 (a 18) (g 18) ["pool", "size"] F_law_letters := by
  refine fnG_of T.f_law_letters sc_law_letters fun cdv A outer s H E hr hgd => ?_
  have hN := sc_law_letters.nd
  exact (sb_cons (ss_set 2 (se_str (by decide +kernel)) hN)
    (sb_one (ss_ret (se_m PySem.F.plainAttrs_str PySem.F.slot_str_join PySem.F.type_str_join o_join (se_str (by decide +kernel)) (sa_cons (se_dat (sl_lcw [("place", 3)] rfl hN (si_rng1 T.z_range (sa_cons (se_var 1) sa_nil)) (by show blkC ["pool", "size", "signs", "place"] (defScope s_law_letters) _ [("place", 3)] = true; decide +kernel) (fun s H C cl fp => (sg_nm 3 hN)) (fun s H C cl fp => sts_nil) (fun s H C cl fp => (se_ix o_ix (se_var 2) (sc_call (G_law_draw.mono (by decide : 1 ≤ 1)) hr hgd takes0N T.m_law_draw T.k_law_draw T.b_law_draw (sa_cons (se_var 0) (sa_cons se_int sa_nil))))))) sa_nil)))))
theorem ok_law_text (T : Tx K mg a g) (G_law_letters : FnG P w K mg base 2 (a 18) (g 18) ["pool", "size"] F_law_letters) : FnG P w K mg base 3 (a 19) (g 19) ["pool", "before", "gaps", "behind"] F_law_text := by
  refine fnG_of T.f_law_text sc_law_text fun cdv A outer s H E hr hgd => ?_
  have hN := sc_law_text.nd
  exact (sb_cons (ss_set 4 (se_loc (sl_lst (sa_cons (se_var 1) sa_nil))) hN)
    (sb_cons (ss_for (passes_of rfl) rfl (si_it (se_var 2)) (sg_nm 5 hN) (sb_one (ss_expr (se_u PySem.F.slot_list_append PySem.F.type_list_append o_append (se_var 4) (sa_cons (se_op o_add (se_ix o_ix (se_var 4) (se_un o_neg se_int)) (se_var 5)) sa_nil)))))
    (sb_one (ss_ret (se_dat (sl_lst (sa_cons (sc_call (G_law_letters.mono (by decide : 2 ≤ 2)) hr hgd (L2N.takes_of rfl rfl rfl rfl) T.m_law_letters T.k_law_letters T.b_law_letters (sa_cons (se_var 0) (sa_cons (se_op o_add (se_ix o_ix (se_var 4) (se_un o_neg se_int)) (se_var 3)) sa_nil))) (sa_cons (se_bty boot_tuple o_tuple T.z_tuple (sa_cons (se_var 4) sa_nil)) sa_nil))))))))
theorem ok_law_alone (T : Tx K mg a g) : FnG P w K mg base 1 (a 20) (g 20) ["line", "spots", "effect_here"] F_law_alone := by
  refine fnG_of T.f_law_alone sc_law_alone fun cdv A outer s H E hr hgd => ?_
  have hN := sc_law_alone.nd
  exact (sb_cons (ss_unp (se_var 2) (sg_tp (pgs_cons (sg_nm 3 hN) (pgs_cons (sg_nm 4 hN) (pgs_cons (sg_nm 5 hN) (pgs_cons (sg_nm 6 hN) pgs_nil)))) rfl))
    (sb_cons (ss_par3 7 8 9 (sa_cons (se_str (by decide +kernel)) (sa_cons (se_loc (sl_lst sa_nil)) (sa_cons se_int sa_nil))) rfl hN)
    (sb_cons (ss_for (passes_of rfl) rfl (si_it (se_var 1)) (sg_nm 10 hN) (sb_cons (ss_set 7 (se_op o_add (se_var 7) (se_sl o_sl (se_var 0) (so_some (se_var 9)) (so_some (se_op o_sub (se_var 10) (se_var 3))))) hN)
    (sb_cons (ss_expr (se_u PySem.F.slot_list_append PySem.F.type_list_append o_append (se_var 8) (sa_cons (se_op o_add (se_blt rfl (o_len) T.z_len (sa_cons (se_var 7) sa_nil)) (se_var 6)) sa_nil)))
    (sb_cons (ss_for (passes_of rfl) rfl (si_it (se_var 5)) (sg_nm 11 hN) (sb_one (ss_set 7 (se_op o_add (se_var 7) (se_if (st_tru (se_isi T.z_isinstance T.z_str rfl (by decide) (se_var 11))) (se_var 11) (se_ix o_ix (se_var 0) (se_op o_add (se_var 10) (se_var 11))))) hN)))
    (sb_one (ss_set 9 (se_op o_add (se_var 10) (se_var 4)) hN))))))
    (sb_one (ss_ret (se_tup (sa_cons (se_op o_add (se_var 7) (se_sl o_sl (se_var 0) (so_some (se_var 9)) so_no)) (sa_cons (se_bty boot_tuple o_tuple T.z_tuple (sa_cons (se_var 8) sa_nil)) sa_nil))))))))
theorem ok_Editor___init__ (T : Tx K mg a g) (G_check_text : FnG P w K mg base 2 (a 2) (g 2) ["text"] F_check_text) (G_check_cursors : FnG P w K mg base 3 (a 5) (g 5) ["text", "cursors"] F_check_cursors) : FnG P w K mg base 4 (a 21) (g 21) ["self", "text", "cursors"] F_Editor___init__ := by
  refine fnG_ofA T.f_Editor___init__.any sc_Editor___init__ fun cdv A outer s H E hr hgd => ?_
  have hN := sc_Editor___init__.nd
  exact (sb_cons (ss_expr (sc_call (G_check_text.mono (by decide : 2 ≤ 3)) hr hgd (L2N.takes_of rfl rfl rfl rfl) T.m_check_text T.k_check_text T.b_check_text (sa_cons (se_var 1) sa_nil)))
    (sb_cons (ss_expr (sc_call (G_check_cursors.mono (by decide : 3 ≤ 3)) hr hgd (L2N.takes_of rfl rfl rfl rfl) T.m_check_cursors T.k_check_cursors T.b_check_cursors (sa_cons (se_var 1) (sa_cons (se_var 2) sa_nil))))
    (sb_cons (ss_asg1 (se_tup (sa_cons (se_var 1) (sa_cons (se_var 2) sa_nil))) (sg_tat 0 T.cf_state))
    (sb_one (ss_ownL (sl_lst sa_nil) (sg_own 0 T.cf_past))))))
theorem ok_Editor_state_behind (T : Tx K mg a g) (G_step_key : FnG P w K mg base 3 (a 12) (g 12) ["text", "cursors", "key"] F_step_key) : FnG P w K mg base 4 (a 22) (g 22) ["self", "state", "key"] F_Editor_state_behind := by
  refine fnG_of T.f_Editor_state_behind sc_Editor_state_behind fun cdv A outer s H E hr hgd => ?_
  have hN := sc_Editor_state_behind.nd
  exact (sb_one (ss_ret (sc_call (G_step_key.mono (by decide : 3 ≤ 3)) hr hgd (L2N.takes_of rfl rfl rfl rfl) T.m_step_key T.k_step_key T.b_step_key (sa_cons (se_ix o_ix (se_var 1) se_int) (sa_cons (se_ix o_ix (se_var 1) se_int) (sa_cons (se_var 2) sa_nil))))))
theorem ok_Editor_check_meeting (T : Tx K mg a g) : FnG P w K mg base 1 (a 23) (g 23) ["self", "state", "later", "number"] F_Editor_check_meeting := by
  refine fnG_of T.f_Editor_check_meeting sc_Editor_check_meeting fun cdv A outer s H E hr hgd => ?_
  have hN := sc_Editor_check_meeting.nd
  exact (sb_one ss_pass)
theorem ok_Editor_state_after (T : Tx K mg a g) (G_check_keys : FnG P w K mg base 3 (a 8) (g 8) ["keys"] F_check_keys) (G_Editor_state_behind : FnG P w K mg base 4 (a 22) (g 22) ["self", "state", "key"] F_Editor_state_behind) (G_Editor_check_meeting : FnG P w K mg base 1 (a 23) (g 23) ["self", "state", "later", "number"] F_Editor_check_meeting) : FnG P w K mg base 5 (a 24) (g 24) ["self", "lists"] F_Editor_state_afterc := by
  refine fnG_of T.f_Editor_state_after sc_Editor_state_after fun cdv A outer s H E hr hgd => ?_
  have hN := sc_Editor_state_after.nd
  exact (sb_cons (ss_for (passes_of rfl) rfl (si_it (se_var 1)) (sg_nm 2 hN) (sb_one (ss_expr (sc_call (G_check_keys.mono (by decide : 3 ≤ 4)) hr hgd (L2N.takes_of rfl rfl rfl rfl) T.m_check_keys T.k_check_keys T.b_check_keys (sa_cons (se_var 2) sa_nil)))))
    (sb_cons (ss_set 3 (se_fld T.cf_state (se_var 0)) hN)
    (sb_cons (ss_for (passes_of rfl) rfl (si_enumS T.z_enumerate (sa_cons (se_m PySem.F.plainAttrs_str PySem.F.slot_str_join PySem.F.type_str_join o_join (se_str (by decide +kernel)) (sa_cons (se_var 1) sa_nil)) sa_nil)) (sg_tp (pgs_cons (sg_nm 4 hN) (pgs_cons (sg_nm 5 hN) pgs_nil)) rfl) (sb_cons (ss_set 6 (se_meth (mgs_cons (mg_of (T.me_Editor_state_behind) (G_Editor_state_behind.mono (by decide : 4 ≤ 4)) T.b_Editor_state_behind (by decide +kernel)) mgs_nil) hr hgd (L2N.takes_of rfl rfl rfl rfl) (se_var 0) (sa_cons (se_var 3) (sa_cons (se_var 5) sa_nil))) hN)
    (sb_cons (ss_expr (se_meth (mgs_cons (mg_of (T.me_Editor_check_meeting) (G_Editor_check_meeting.mono (by decide : 1 ≤ 4)) T.b_Editor_check_meeting (by decide +kernel)) mgs_nil) hr hgd (L2N.takes_of rfl rfl rfl rfl) (se_var 0) (sa_cons (se_var 3) (sa_cons (se_var 6) (sa_cons (se_op o_add (se_var 4) se_int) sa_nil)))))
    (sb_one (ss_set 3 (se_var 6) hN)))))
    (sb_one (ss_ret (se_var 3))))))
theorem ok_Editor_press_all (T : Tx K mg a g) (G_Editor_state_after : FnG P w K mg base 5 (a 24) (g 24) ["self", "lists"] F_Editor_state_afterc) : FnGV P w K mg base 6 (a 25) (g 25) ["self"] "lists" F_Editor_press_all := by
  refine fnGV_of (ps := ["self"]) (pv := "lists") T.f_Editor_press_all sc_Editor_press_all fun cdv A outer s H E hr hgd => ?_
  have hN := sc_Editor_press_all.nd
  exact (sb_cons (ss_set 2 (se_meth (mgs_cons (mg_of (T.me_Editor_state_after) (G_Editor_state_after.mono (by decide : 5 ≤ 5)) T.b_Editor_state_after (by decide +kernel)) mgs_nil) hr hgd (L2N.takes_of rfl rfl rfl rfl) (se_var 0) (sa_cons (se_var 1) sa_nil)) hN)
    (sb_cons (ss_expr (se_appF 0 T.cf_past T.cf_state))
    (sb_cons (ss_asg1 (se_var 2) (sg_tat 0 T.cf_state))
    (sb_one (ss_ret (se_blt rfl (o_len) T.z_len (sa_cons (se_ix o_ix (se_var 2) se_int) sa_nil)))))))
theorem ok_Editor_press (T : Tx K mg a g) (G_Editor_press_all : FnGV P w K mg base 6 (a 25) (g 25) ["self"] "lists" F_Editor_press_all) : FnG P w K mg base 7 (a 26) (g 26) ["self", "keys"] F_Editor_press := by
  refine fnG_of T.f_Editor_press sc_Editor_press fun cdv A outer s H E hr hgd => ?_
  have hN := sc_Editor_press.nd
  exact (sb_one (ss_ret (se_methV (mgvs_cons (mgv_of (T.me_Editor_press_all) (G_Editor_press_all.mono (by decide : 6 ≤ 6)) T.b_Editor_press_all (by decide +kernel)) mgvs_nil) hr hgd (L2N.takes_of rfl rfl rfl rfl) (se_var 0) (sa_cons (se_var 1) sa_nil))))
theorem ok_effect_of (T : Tx K mg a g) (G_far_run : FnG P w K mg base 1 (a 16) (g 16) ["keys"] F_far_run) : FnG P w K mg base 2 (a 27) (g 27) ["keys"] F_effect_of := by
  refine fnG_of T.f_effect_of sc_effect_of fun cdv A outer s H E hr hgd => ?_
  have hN := sc_effect_of.nd
  exact (sb_cons (ss_unp (sc_call (G_far_run.mono (by decide : 1 ≤ 1)) hr hgd (L2N.takes_of rfl rfl rfl rfl) T.m_far_run T.k_far_run T.b_far_run (sa_cons (se_var 0) sa_nil)) (sg_tp (pgs_cons (sg_nm 1 hN) (pgs_cons (sg_nm 2 hN) (pgs_cons (sg_nm 3 hN) (pgs_cons (sg_nm 4 hN) pgs_nil)))) rfl))
    (sb_one (ss_ret (se_tup (sa_cons (se_var 1) (sa_cons (se_var 2) (sa_cons (se_bty boot_tuple o_tuple T.z_tuple (sa_cons (se_op o_add (se_var 3) (se_dat (sl_rev (se_var 4)))) sa_nil)) (sa_cons (se_blt rfl (o_len) T.z_len (sa_cons (se_var 3) sa_nil)) sa_nil))))))))
theorem ok_far_effect (T : Tx K mg a g) (G_check_keys : FnG P w K mg base 3 (a 8) (g 8) ["keys"] F_check_keys) (G_effect_of : FnG P w K mg base 2 (a 27) (g 27) ["keys"] F_effect_of) : FnG P w K mg base 4 (a 28) (g 28) ["keys"] F_far_effect := by
  refine fnG_of T.f_far_effect sc_far_effect fun cdv A outer s H E hr hgd => ?_
  have hN := sc_far_effect.nd
  exact (sb_cons (ss_expr (sc_call (G_check_keys.mono (by decide : 3 ≤ 3)) hr hgd (L2N.takes_of rfl rfl rfl rfl) T.m_check_keys T.k_check_keys T.b_check_keys (sa_cons (se_var 0) sa_nil)))
    (sb_one (ss_ret (sc_call (G_effect_of.mono (by decide : 2 ≤ 3)) hr hgd (L2N.takes_of rfl rfl rfl rfl) T.m_effect_of T.k_effect_of T.b_effect_of (sa_cons (se_var 0) sa_nil)))))
theorem ok_sums_of (T : Tx K mg a g) : FnG P w K mg base 1 (a 29) (g 29) ["keys"] F_sums_of := by
  refine fnG_of T.f_sums_of sc_sums_of fun cdv A outer s H E hr hgd => ?_
  have hN := sc_sums_of.nd
  exact (sb_cons (ss_set 1 (se_loc (sl_lst (sa_cons se_int sa_nil))) hN)
    (sb_cons (ss_for (passes_of rfl) rfl (si_it (se_var 0)) (sg_nm 2 hN) (sb_one (ss_if (st_cmp (o_in) (se_var 2) (se_str (by decide +kernel))) (sb_one (ss_expr (se_u PySem.F.slot_list_append PySem.F.type_list_append o_append (se_var 1) (sa_cons (se_op o_add (se_ix o_ix (se_var 1) (se_un o_neg se_int)) se_int) sa_nil)))) (sb_one (ss_if (st_cmp (o_notin) (se_var 2) (se_str (by decide +kernel))) (sb_one (ss_expr (se_u PySem.F.slot_list_append PySem.F.type_list_append o_append (se_var 1) (sa_cons (se_op o_sub (se_ix o_ix (se_var 1) (se_un o_neg se_int)) se_int) sa_nil)))) sb_nil)))))
    (sb_one (ss_ret (se_frz (se_var 1))))))
theorem ok_depth_of (T : Tx K mg a g) (G_check_keys : FnG P w K mg base 3 (a 8) (g 8) ["keys"] F_check_keys) (G_sums_of : FnG P w K mg base 1 (a 29) (g 29) ["keys"] F_sums_of) : FnG P w K mg base 4 (a 30) (g 30) ["keys"] F_depth_of := by
  refine fnG_of T.f_depth_of sc_depth_of fun cdv A outer s H E hr hgd => ?_
  have hN := sc_depth_of.nd
  exact (sb_cons (ss_expr (sc_call (G_check_keys.mono (by decide : 3 ≤ 3)) hr hgd (L2N.takes_of rfl rfl rfl rfl) T.m_check_keys T.k_check_keys T.b_check_keys (sa_cons (se_var 0) sa_nil)))
    (sb_one (ss_ret (se_blt rfl (o_max rfl) T.z_max (sa_cons (sc_call (G_sums_of.mono (by decide : 1 ≤ 3)) hr hgd (L2N.takes_of rfl rfl rfl rfl) T.m_sums_of T.k_sums_of T.b_sums_of (sa_cons (se_var 0) sa_nil)) sa_nil)))))
theorem ok_Editor_text_now (T : Tx K mg a g) : FnG P w K mg base 1 (a 31) (g 31) ["self"] F_Editor_text_now := by
  refine fnG_of T.f_Editor_text_now sc_Editor_text_now fun cdv A outer s H E hr hgd => ?_
  have hN := sc_Editor_text_now.nd
  exact (sb_one (ss_ret (se_ix o_ix (se_fld T.cf_state (se_var 0)) se_int)))
theorem ok_Editor_cursors_now (T : Tx K mg a g) : FnG P w K mg base 1 (a 32) (g 32) ["self"] F_Editor_cursors_now := by
  refine fnG_of T.f_Editor_cursors_now sc_Editor_cursors_now fun cdv A outer s H E hr hgd => ?_
  have hN := sc_Editor_cursors_now.nd
  exact (sb_one (ss_ret (se_ix o_ix (se_fld T.cf_state (se_var 0)) se_int)))
theorem ok_law_far_right (T : Tx K mg a g) (G_reach_of : FnG P w K mg base 4 (a 17) (g 17) ["keys"] F_reach_of) (G_depth_of : FnG P w K mg base 4 (a 30) (g 30) ["keys"] F_depth_of) (G_law_draw : FnG P w K mg base 1 (a 14) (g 14) ["pool", "many"] F_law_draw) (G_law_text : FnG P w K mg base 3 (a 19) (g 19) ["pool", "before", "gaps", "behind"] F_law_text) (G_law_alone : FnG P w K mg base 1 (a 20) (g 20) ["line", "spots", "effect_here"] F_law_alone) (G_far_effect : FnG P w K mg base 4 (a 28) (g 28) ["keys"] F_far_effect) (G_Editor___init__ : FnG P w K mg base 4 (a 21) (g 21) ["self", "text", "cursors"] F_Editor___init__) (G_Editor_press : FnG P w K mg base 7 (a 26) (g 26) ["self", "keys"] F_Editor_press) (G_pressed : FnG P w K mg base 4 (a 13) (g 13) ["text", "cursors", "keys"] F_pressed) (G_Editor_text_now : FnG P w K mg base 1 (a 31) (g 31) ["self"] F_Editor_text_now) (G_Editor_cursors_now : FnG P w K mg base 1 (a 32) (g 32) ["self"] F_Editor_cursors_now) : FnG P w K mg base 8 (a 33) (g 33) ["pool", "strokes"] F_law_far_right_v1 := by
  refine fnG_of T.f_law_far_right sc_law_far_right fun cdv A outer s H E hr hgd => ?_
  have hN := sc_law_far_right.nd
  exact (sb_cons (ss_unp (sc_call (G_reach_of.mono (by decide : 4 ≤ 7)) hr hgd (L2N.takes_of rfl rfl rfl rfl) T.m_reach_of T.k_reach_of T.b_reach_of (sa_cons (se_var 1) sa_nil)) (sg_tp (pgs_cons (sg_nm 2 hN) (pgs_cons (sg_nm 3 hN) pgs_nil)) rfl))
    (sb_cons (ss_set 4 (se_blt rfl (o_max rfl) T.z_max (sa_cons (se_op o_add (se_var 2) (se_var 3)) (sa_cons (se_op o_add (sc_call (G_depth_of.mono (by decide : 4 ≤ 7)) hr hgd (L2N.takes_of rfl rfl rfl rfl) T.m_depth_of T.k_depth_of T.b_depth_of (sa_cons (se_var 1) sa_nil)) se_int) sa_nil))) hN)
    (sb_cons (ss_lcD (ps_lcw 5 [("turn", 10)] rfl hN (si_rng1 T.z_range (sa_cons (sc_call (G_law_draw.mono (by decide : 1 ≤ 7)) hr hgd (L2N.takes_of rfl rfl rfl rfl) T.m_law_draw T.k_law_draw T.b_law_draw (sa_cons (se_var 0) (sa_cons se_int sa_nil))) sa_nil)) (by show blkC ["pool", "strokes", "left", "right", "least", "gaps", "line", "spots", "due", "desk", "turn"] (defScope s_law_far_right) _ [("turn", 10)] = true; decide +kernel) (fun s H C cl fp => (sg_nm 10 hN)) (fun s H C cl fp => sts_nil) (fun s H C cl fp => (se_op o_add (se_var 4) (sc_call (G_law_draw.mono (by decide : 1 ≤ 7)) hr hgd takes0N T.m_law_draw T.k_law_draw T.b_law_draw (sa_cons (se_var 0) (sa_cons se_int sa_nil)))))))
    (sb_cons (ss_unpL (sc_call (G_law_text.mono (by decide : 3 ≤ 7)) hr hgd (L2N.takes_of rfl rfl rfl rfl) T.m_law_text T.k_law_text T.b_law_text (sa_cons (se_var 0) (sa_cons (se_op o_add (se_var 2) (sc_call (G_law_draw.mono (by decide : 1 ≤ 7)) hr hgd (L2N.takes_of rfl rfl rfl rfl) T.m_law_draw T.k_law_draw T.b_law_draw (sa_cons (se_var 0) (sa_cons se_int sa_nil)))) (sa_cons (se_var 5) (sa_cons (se_op o_add (se_var 3) (sc_call (G_law_draw.mono (by decide : 1 ≤ 7)) hr hgd (L2N.takes_of rfl rfl rfl rfl) T.m_law_draw T.k_law_draw T.b_law_draw (sa_cons (se_var 0) (sa_cons se_int sa_nil)))) sa_nil))))) (pgs_cons (sg_nm 6 hN) (pgs_cons (sg_nm 7 hN) pgs_nil)) rfl)
    (sb_cons (ss_set 8 (sc_call (G_law_alone.mono (by decide : 1 ≤ 7)) hr hgd (L2N.takes_of rfl rfl rfl rfl) T.m_law_alone T.k_law_alone T.b_law_alone (sa_cons (se_var 6) (sa_cons (se_var 7) (sa_cons (sc_call (G_far_effect.mono (by decide : 4 ≤ 7)) hr hgd (L2N.takes_of rfl rfl rfl rfl) T.m_far_effect T.k_far_effect T.b_far_effect (sa_cons (se_var 1) sa_nil)) sa_nil)))) hN)
    (sb_cons (ss_set 9 (sc_make T.mk_Editor (G_Editor___init__.mono (by decide : 4 ≤ 6)) hr hgd (L2N.takes_of rfl rfl rfl rfl) T.b_Editor___init__ (sa_cons (se_var 6) (sa_cons (se_var 7) sa_nil))) hN)
    (sb_cons (ss_expr (se_meth (mgs_cons (mg_of (T.me_Editor_press) (G_Editor_press.mono (by decide : 7 ≤ 7)) T.b_Editor_press (by decide +kernel)) mgs_nil) hr hgd (L2N.takes_of rfl rfl rfl rfl) (se_var 9) (sa_cons (se_var 1) sa_nil)))
    (sb_one (ss_ret (se_and (se_cmp (o_eq hr.units) (sc_call (G_pressed.mono (by decide : 4 ≤ 7)) hr hgd (L2N.takes_of rfl rfl rfl rfl) T.m_pressed T.k_pressed T.b_pressed (sa_cons (se_var 6) (sa_cons (se_var 7) (sa_cons (se_var 1) sa_nil)))) (se_var 8)) (se_one (se_cmp (o_eq hr.units) (se_tup (sa_cons (se_prop (prs_cons (pr_of (T.pp_Editor_text_now) (G_Editor_text_now.mono (by decide : 1 ≤ 6)) T.b_Editor_text_now) prs_nil) hr hgd (se_var 9)) (sa_cons (se_prop (prs_cons (pr_of (T.pp_Editor_cursors_now) (G_Editor_cursors_now.mono (by decide : 1 ≤ 6)) T.b_Editor_cursors_now) prs_nil) hr hgd (se_var 9)) sa_nil))) (se_var 8)))))))))))))
theorem ok_layout_of (T : Tx K mg a g) (G_check_text : FnG P w K mg base 2 (a 2) (g 2) ["text"] F_check_text) (G_check_cursors : FnG P w K mg base 3 (a 5) (g 5) ["text", "cursors"] F_check_cursors) : FnG P w K mg base 4 (a 34) (g 34) ["text", "cursors"] F_layout_of := by
  refine fnG_of T.f_layout_of sc_layout_of fun cdv A outer s H E hr hgd => ?_
  have hN := sc_layout_of.nd
  exact (sb_cons (ss_expr (sc_call (G_check_text.mono (by decide : 2 ≤ 3)) hr hgd (L2N.takes_of rfl rfl rfl rfl) T.m_check_text T.k_check_text T.b_check_text (sa_cons (se_var 0) sa_nil)))
    (sb_cons (ss_expr (sc_call (G_check_cursors.mono (by decide : 3 ≤ 3)) hr hgd (L2N.takes_of rfl rfl rfl rfl) T.m_check_cursors T.k_check_cursors T.b_check_cursors (sa_cons (se_var 0) (sa_cons (se_var 1) sa_nil))))
    (sb_cons (ss_set 2 (se_bty boot_tuple o_tuple T.z_tuple (sa_cons (se_dat (sl_lcw [("one", 3), ("other", 4)] rfl hN (si_zip T.z_zip (sa_cons (se_var 1) (sa_cons (se_sl o_sl (se_var 1) (so_some se_int) so_no) sa_nil))) (by show blkC ["text", "cursors", "gaps", "one", "other"] (defScope s_layout_of) _ [("one", 3), ("other", 4)] = true; decide +kernel) (fun s H C cl fp => (sg_tp (pgs_cons (sg_nm 3 hN) (pgs_cons (sg_nm 4 hN) pgs_nil)) rfl)) (fun s H C cl fp => sts_nil) (fun s H C cl fp => (se_op o_sub (se_var 4) (se_var 3))))) sa_nil)) hN)
    (sb_one (ss_ret (se_tup (sa_cons (se_ix o_ix (se_var 1) se_int) (sa_cons (se_var 2) (sa_cons (se_op o_sub (se_blt rfl (o_len) T.z_len (sa_cons (se_var 0) sa_nil)) (se_ix o_ix (se_var 1) (se_un o_neg se_int))) sa_nil)))))))))
theorem ok_net_of (T : Tx K mg a g) (G_check_keys : FnG P w K mg base 3 (a 8) (g 8) ["keys"] F_check_keys) (G_sums_of : FnG P w K mg base 1 (a 29) (g 29) ["keys"] F_sums_of) : FnG P w K mg base 4 (a 35) (g 35) ["keys"] F_net_of := by
  refine fnG_of T.f_net_of sc_net_of fun cdv A outer s H E hr hgd => ?_
  have hN := sc_net_of.nd
  exact (sb_cons (ss_expr (sc_call (G_check_keys.mono (by decide : 3 ≤ 3)) hr hgd (L2N.takes_of rfl rfl rfl rfl) T.m_check_keys T.k_check_keys T.b_check_keys (sa_cons (se_var 0) sa_nil)))
    (sb_one (ss_ret (se_op o_sub se_int (se_ix o_ix (sc_call (G_sums_of.mono (by decide : 1 ≤ 3)) hr hgd (L2N.takes_of rfl rfl rfl rfl) T.m_sums_of T.k_sums_of T.b_sums_of (sa_cons (se_var 0) sa_nil)) (se_un o_neg se_int))))))
theorem ok_law_near_right (T : Tx K mg a g) (G_depth_of : FnG P w K mg base 4 (a 30) (g 30) ["keys"] F_depth_of) (G_law_draw : FnG P w K mg base 1 (a 14) (g 14) ["pool", "many"] F_law_draw) (G_law_text : FnG P w K mg base 3 (a 19) (g 19) ["pool", "before", "gaps", "behind"] F_law_text) (G_pressed : FnG P w K mg base 4 (a 13) (g 13) ["text", "cursors", "keys"] F_pressed) (G_net_of : FnG P w K mg base 4 (a 35) (g 35) ["keys"] F_net_of) (G_layout_of : FnG P w K mg base 4 (a 34) (g 34) ["text", "cursors"] F_layout_of) : FnG P w K mg base 5 (a 36) (g 36) ["pool", "strokes"] F_law_near_right := by
  refine fnG_of T.f_law_near_right sc_law_near_right fun cdv A outer s H E hr hgd => ?_
  have hN := sc_law_near_right.nd
  exact (sb_cons (ss_parN (is := [2, 3]) (sa_cons (sc_call (G_depth_of.mono (by decide : 4 ≤ 4)) hr hgd (L2N.takes_of rfl rfl rfl rfl) T.m_depth_of T.k_depth_of T.b_depth_of (sa_cons (se_var 1) sa_nil)) (sa_cons (se_blt rfl (o_len) T.z_len (sa_cons (se_var 1) sa_nil)) sa_nil)) (pg_tup rfl (pgs_cons (sg_nm 2 hN) (pgs_cons (sg_nm 3 hN) pgs_nil))))
    (sb_cons (ss_lcD (ps_lcw 4 [("turn", 9)] rfl hN (si_rng1 T.z_range (sa_cons (sc_call (G_law_draw.mono (by decide : 1 ≤ 4)) hr hgd (L2N.takes_of rfl rfl rfl rfl) T.m_law_draw T.k_law_draw T.b_law_draw (sa_cons (se_var 0) (sa_cons se_int sa_nil))) sa_nil)) (by show blkC ["pool", "strokes", "depth_here", "size", "gaps", "line", "spots", "after", "due", "turn", "gap"] (defScope s_law_near_right) _ [("turn", 9)] = true; decide +kernel) (fun s H C cl fp => (sg_nm 9 hN)) (fun s H C cl fp => sts_nil) (fun s H C cl fp => (se_op o_add se_int (sc_call (G_law_draw.mono (by decide : 1 ≤ 4)) hr hgd takes0N T.m_law_draw T.k_law_draw T.b_law_draw (sa_cons (se_var 0) (sa_cons (se_op o_add (se_var 2) se_int) sa_nil)))))))
    (sb_cons (ss_unpL (sc_call (G_law_text.mono (by decide : 3 ≤ 4)) hr hgd (L2N.takes_of rfl rfl rfl rfl) T.m_law_text T.k_law_text T.b_law_text (sa_cons (se_var 0) (sa_cons (se_op o_add (se_var 3) (sc_call (G_law_draw.mono (by decide : 1 ≤ 4)) hr hgd (L2N.takes_of rfl rfl rfl rfl) T.m_law_draw T.k_law_draw T.b_law_draw (sa_cons (se_var 0) (sa_cons se_int sa_nil)))) (sa_cons (se_var 4) (sa_cons (se_op o_add (se_var 3) (sc_call (G_law_draw.mono (by decide : 1 ≤ 4)) hr hgd (L2N.takes_of rfl rfl rfl rfl) T.m_law_draw T.k_law_draw T.b_law_draw (sa_cons (se_var 0) (sa_cons se_int sa_nil)))) sa_nil))))) (pgs_cons (sg_nm 5 hN) (pgs_cons (sg_nm 6 hN) pgs_nil)) rfl)
    (sb_cons (ss_set 7 (sc_call (G_pressed.mono (by decide : 4 ≤ 4)) hr hgd (L2N.takes_of rfl rfl rfl rfl) T.m_pressed T.k_pressed T.b_pressed (sa_cons (se_var 5) (sa_cons (se_var 6) (sa_cons (se_var 1) sa_nil)))) hN)
    (sb_cons (ss_set 8 (se_bty boot_tuple o_tuple T.z_tuple (sa_cons (se_dat (sl_lcw [("gap", 10)] rfl hN (si_it (se_var 4)) (by show blkC ["pool", "strokes", "depth_here", "size", "gaps", "line", "spots", "after", "due", "turn", "gap"] (defScope s_law_near_right) _ [("gap", 10)] = true; decide +kernel) (fun s H C cl fp => (sg_nm 10 hN)) (fun s H C cl fp => (sts_one (st_cmp (o_gt) (se_var 10) (se_var 2)))) (fun s H C cl fp => (se_op o_add (se_var 10) (sc_call (G_net_of.mono (by decide : 4 ≤ 4)) hr hgd takes0N T.m_net_of T.k_net_of T.b_net_of (sa_cons (se_var 1) sa_nil)))))) sa_nil)) hN)
    (sb_one (ss_ret (se_cmp (o_eq hr.units) (se_ix o_ix (sc_call (G_layout_of.mono (by decide : 4 ≤ 4)) hr hgd (L2N.takes_of rfl rfl rfl rfl) T.m_layout_of T.k_layout_of T.b_layout_of (sa_cons (se_ix o_ix (se_var 7) se_int) (sa_cons (se_ix o_ix (se_var 7) se_int) sa_nil))) se_int) (se_var 8)))))))))
theorem ok_law (T : Tx K mg a g) (G_law_pool : FnG P w K mg base 1 (a 0) (g 0) ["script", "at"] F_law_pool) (G_law_strokes : FnG P w K mg base 2 (a 15) (g 15) ["pool", "most"] F_law_strokes) (G_law_far_right : FnG P w K mg base 8 (a 33) (g 33) ["pool", "strokes"] F_law_far_right_v1) (G_law_near_right : FnG P w K mg base 5 (a 36) (g 36) ["pool", "strokes"] F_law_near_right) (G_pressed : FnG P w K mg base 4 (a 13) (g 13) ["text", "cursors", "keys"] F_pressed) : FnG P w K mg base 9 (a 37) (g 37) ["script"] F_law_k51 := by
  refine fnG_of T.f_law sc_law fun cdv A outer s H E hr hgd => ?_
  have hN := sc_law.nd
  exact (sb_cons (ss_for (passes_of rfl) rfl (si_rng1 T.z_range (sa_cons (se_blt rfl (o_max rfl) T.z_max (sa_cons se_int (sa_cons (se_blt rfl (o_min rfl) T.z_min (sa_cons se_int (sa_cons (se_scrLen T.z_len (se_var 0)) sa_nil))) sa_nil))) sa_nil)) (sg_nm 1 hN) (sb_cons (ss_set 2 (sc_call (G_law_pool.mono (by decide : 1 ≤ 8)) hr hgd (L2N.takes_of rfl rfl rfl rfl) T.m_law_pool T.k_law_pool T.b_law_pool (sa_cons (se_var 0) (sa_cons (se_var 1) sa_nil))) hN)
    (sb_one (ss_for (passes_of rfl) rfl (si_rng1 T.z_range (sa_cons se_int sa_nil)) (sg_nm 3 hN) (sb_cons (ss_set 4 (sc_call (G_law_strokes.mono (by decide : 2 ≤ 8)) hr hgd (L2N.takes_of rfl rfl rfl rfl) T.m_law_strokes T.k_law_strokes T.b_law_strokes (sa_cons (se_var 2) (sa_cons se_int sa_nil))) hN)
    (sb_one (ss_if (st_w (sw_or (st_not (st_tru (sc_call (G_law_far_right.mono (by decide : 8 ≤ 8)) hr hgd (L2N.takes_of rfl rfl rfl rfl) T.m_law_far_right T.k_law_far_right T.b_law_far_right (sa_cons (se_var 2) (sa_cons (se_var 4) sa_nil))))) (sw_or1 (st_not (st_tru (sc_call (G_law_near_right.mono (by decide : 5 ≤ 8)) hr hgd (L2N.takes_of rfl rfl rfl rfl) T.m_law_near_right T.k_law_near_right T.b_law_near_right (sa_cons (se_var 2) (sa_cons (se_var 4) sa_nil)))))))) (sb_one (ss_ret se_bl)) sb_nil)))))))
    (sb_one (ss_ret (se_cmp (o_eq hr.units) (sc_call (G_pressed.mono (by decide : 4 ≤ 8)) hr hgd (L2N.takes_of rfl rfl rfl rfl) T.m_pressed T.k_pressed T.b_pressed (sa_cons (se_str (by decide +kernel)) (sa_cons (se_tup (sa_cons se_int (sa_cons se_int sa_nil))) (sa_cons (se_str (by decide +kernel)) sa_nil)))) (se_tup (sa_cons (se_str (by decide +kernel)) (sa_cons (se_tup (sa_cons se_int (sa_cons se_int sa_nil))) sa_nil)))))))
end

theorem all_mk {l : PySem.W.OpenLaw} {w : World} {K : PySem.W.Frag} {h : Heap} {mg : Str → Option Value} {fa : Addr} (X : K.In h) (G : h.Ns mainGlobals mg) (hfa : mg "law" = some (.ref fa))
    {Cl_Editor : Addr}
    {oc0 kV0 dc0 pm0 cd0 ct0 : Value} {od0 an0 : Option Addr} {sl0 : Array (Option Value)} {f0 : Addr}
    {oc1 kV1 dc1 pm1 cd1 ct1 : Value} {od1 an1 : Option Addr} {sl1 : Array (Option Value)} {f1 : Addr}
    {oc2 kV2 dc2 pm2 cd2 ct2 : Value} {od2 an2 : Option Addr} {sl2 : Array (Option Value)} {f2 : Addr}
    {oc3 kV3 dc3 pm3 cd3 ct3 : Value} {od3 an3 : Option Addr} {sl3 : Array (Option Value)} {f3 : Addr}
    {oc4 kV4 dc4 pm4 cd4 ct4 : Value} {od4 an4 : Option Addr} {sl4 : Array (Option Value)} {f4 : Addr}
    {oc5 kV5 dc5 pm5 cd5 ct5 : Value} {od5 an5 : Option Addr} {sl5 : Array (Option Value)} {f5 : Addr}
    {oc6 kV6 dc6 pm6 cd6 ct6 : Value} {od6 an6 : Option Addr} {sl6 : Array (Option Value)} {f6 : Addr}
    {oc7 kV7 dc7 pm7 cd7 ct7 : Value} {od7 an7 : Option Addr} {sl7 : Array (Option Value)} {f7 : Addr}
    {oc8 kV8 dc8 pm8 cd8 ct8 : Value} {od8 an8 : Option Addr} {sl8 : Array (Option Value)} {f8 : Addr}
    {oc9 kV9 dc9 pm9 cd9 ct9 : Value} {od9 an9 : Option Addr} {sl9 : Array (Option Value)} {f9 : Addr}
    {oc10 kV10 dc10 pm10 cd10 ct10 : Value} {od10 an10 : Option Addr} {sl10 : Array (Option Value)} {f10 : Addr}
    {oc11 kV11 dc11 pm11 cd11 ct11 : Value} {od11 an11 : Option Addr} {sl11 : Array (Option Value)} {f11 : Addr}
    {oc12 kV12 dc12 pm12 cd12 ct12 : Value} {od12 an12 : Option Addr} {sl12 : Array (Option Value)} {f12 : Addr}
    {oc13 kV13 dc13 pm13 cd13 ct13 : Value} {od13 an13 : Option Addr} {sl13 : Array (Option Value)} {f13 : Addr}
    {oc14 kV14 dc14 pm14 cd14 ct14 : Value} {od14 an14 : Option Addr} {sl14 : Array (Option Value)} {f14 : Addr}
    {oc15 kV15 dc15 pm15 cd15 ct15 : Value} {od15 an15 : Option Addr} {sl15 : Array (Option Value)} {f15 : Addr}
    {oc16 kV16 dc16 pm16 cd16 ct16 : Value} {od16 an16 : Option Addr} {sl16 : Array (Option Value)} {f16 : Addr}
    {oc17 kV17 dc17 pm17 cd17 ct17 : Value} {od17 an17 : Option Addr} {sl17 : Array (Option Value)} {f17 : Addr}
    {oc18 kV18 dc18 pm18 cd18 ct18 : Value} {od18 an18 : Option Addr} {sl18 : Array (Option Value)} {f18 : Addr}
    {oc19 kV19 dc19 pm19 cd19 ct19 : Value} {od19 an19 : Option Addr} {sl19 : Array (Option Value)} {f19 : Addr}
    {oc20 kV20 dc20 pm20 cd20 ct20 : Value} {od20 an20 : Option Addr} {sl20 : Array (Option Value)} {f20 : Addr}
    {oc21 kV21 dc21 pm21 cd21 ct21 : Value} {od21 an21 : Option Addr} {sl21 : Array (Option Value)} {f21 : Addr}
    {dt21 : Addr} {dc_21 : Value} {dd_21 : Option Addr} {dz_21 : Nat} {ds_21 : Array (Option Value)} {dv21_0 dv21_1 : Value}
    {oc22 kV22 dc22 pm22 cd22 ct22 : Value} {od22 an22 : Option Addr} {sl22 : Array (Option Value)} {f22 : Addr}
    {oc23 kV23 dc23 pm23 cd23 ct23 : Value} {od23 an23 : Option Addr} {sl23 : Array (Option Value)} {f23 : Addr}
    {oc24 kV24 dc24 pm24 cd24 ct24 : Value} {od24 an24 : Option Addr} {sl24 : Array (Option Value)} {f24 : Addr}
    {oc25 kV25 dc25 pm25 cd25 ct25 : Value} {od25 an25 : Option Addr} {sl25 : Array (Option Value)} {f25 : Addr}
    {oc26 kV26 dc26 pm26 cd26 ct26 : Value} {od26 an26 : Option Addr} {sl26 : Array (Option Value)} {f26 : Addr}
    {oc27 kV27 dc27 pm27 cd27 ct27 : Value} {od27 an27 : Option Addr} {sl27 : Array (Option Value)} {f27 : Addr}
    {oc28 kV28 dc28 pm28 cd28 ct28 : Value} {od28 an28 : Option Addr} {sl28 : Array (Option Value)} {f28 : Addr}
    {oc29 kV29 dc29 pm29 cd29 ct29 : Value} {od29 an29 : Option Addr} {sl29 : Array (Option Value)} {f29 : Addr}
    {oc30 kV30 dc30 pm30 cd30 ct30 : Value} {od30 an30 : Option Addr} {sl30 : Array (Option Value)} {f30 : Addr}
    {oc31 kV31 dc31 pm31 cd31 ct31 : Value} {od31 an31 : Option Addr} {sl31 : Array (Option Value)} {f31 : Addr}
    {pr31 : Addr} {rs31 : List Value}
    {oc32 kV32 dc32 pm32 cd32 ct32 : Value} {od32 an32 : Option Addr} {sl32 : Array (Option Value)} {f32 : Addr}
    {pr32 : Addr} {rs32 : List Value}
    {oc33 kV33 dc33 pm33 cd33 ct33 : Value} {od33 an33 : Option Addr} {sl33 : Array (Option Value)} {f33 : Addr}
    {oc34 kV34 dc34 pm34 cd34 ct34 : Value} {od34 an34 : Option Addr} {sl34 : Array (Option Value)} {f34 : Addr}
    {oc35 kV35 dc35 pm35 cd35 ct35 : Value} {od35 an35 : Option Addr} {sl35 : Array (Option Value)} {f35 : Addr}
    {oc36 kV36 dc36 pm36 cd36 ct36 : Value} {od36 an36 : Option Addr} {sl36 : Array (Option Value)} {f36 : Addr}
    {oc37 kV37 dc37 pm37 cd37 ct37 : Value} {od37 an37 : Option Addr} {sl37 : Array (Option Value)} {f37 : Addr}
    {C0 : Addr}
    {C1 : Addr}
    {C2 : Addr}
    {t3 : Tok}
    {t4 : Tok}
    {t5 : Tok}
    {t6 : Tok}
    {t7 : Tok}
    {t8 : Tok}
    (cg_Editor : PySem.W.nsIn K mainGlobals "Editor" = some (some (.ref Cl_Editor)))
    (cp_Editor : PySem.W.plainGet K Cl_Editor Str.empty = true)
    (ch_Editor : PySem.W.hasDictIn K Cl_Editor = true)
    (co_Editor : PySem.W.plainOver K Cl_Editor = true)
    (cs_Editor : PySem.W.findIn K (.ref Cl_Editor) "__setattr__" = some (some (.builtin "object.__setattr__")))
    (cm_Editor : PySem.W.makesIn K Cl_Editor = true)
    (ck_Editor : PySem.W.keepIn K (.ref Cl_Editor) = true)
    (a0 : PySem.W.nsIn K mainGlobals "_law_pool" = some (some (.ref f0)))
    (l0 : K.lookup f0 = some ⟨oc0, od0, .func (PySem.W.fnOf "_law_pool" "_law_pool" (defArgs s_law_pool) (defBody s_law_pool) (defScope s_law_pool) .none kV0 dc0 pm0 an0 cd0 ct0), sl0⟩)
    (c0 : PySem.W.codeIn K cd0 "_law_pool" = true)
    (k0 : PySem.W.keepIn K (.ref f0) = true)
    (a1 : PySem.W.nsIn K mainGlobals "is_text" = some (some (.ref f1)))
    (l1 : K.lookup f1 = some ⟨oc1, od1, .func (PySem.W.fnOf "is_text" "is_text" (defArgs s_is_text) (defBody s_is_text) (defScope s_is_text) .none kV1 dc1 pm1 an1 cd1 ct1), sl1⟩)
    (c1 : PySem.W.codeIn K cd1 "is_text" = true)
    (k1 : PySem.W.keepIn K (.ref f1) = true)
    (a2 : PySem.W.nsIn K mainGlobals "check_text" = some (some (.ref f2)))
    (l2 : K.lookup f2 = some ⟨oc2, od2, .func (PySem.W.fnOf "check_text" "check_text" (defArgs s_check_text) (defBody s_check_text) (defScope s_check_text) .none kV2 dc2 pm2 an2 cd2 ct2), sl2⟩)
    (c2 : PySem.W.codeIn K cd2 "check_text" = true)
    (k2 : PySem.W.keepIn K (.ref f2) = true)
    (a3 : PySem.W.nsIn K mainGlobals "is_integer" = some (some (.ref f3)))
    (l3 : K.lookup f3 = some ⟨oc3, od3, .func (PySem.W.fnOf "is_integer" "is_integer" (defArgs s_is_integer) (defBody s_is_integer) (defScope s_is_integer) .none kV3 dc3 pm3 an3 cd3 ct3), sl3⟩)
    (c3 : PySem.W.codeIn K cd3 "is_integer" = true)
    (k3 : PySem.W.keepIn K (.ref f3) = true)
    (a4 : PySem.W.nsIn K mainGlobals "is_cursors" = some (some (.ref f4)))
    (l4 : K.lookup f4 = some ⟨oc4, od4, .func (PySem.W.fnOf "is_cursors" "is_cursors" (defArgs s_is_cursors) (defBody s_is_cursors) (defScope s_is_cursors) .none kV4 dc4 pm4 an4 cd4 ct4), sl4⟩)
    (c4 : PySem.W.codeIn K cd4 "is_cursors" = true)
    (k4 : PySem.W.keepIn K (.ref f4) = true)
    (a5 : PySem.W.nsIn K mainGlobals "check_cursors" = some (some (.ref f5)))
    (l5 : K.lookup f5 = some ⟨oc5, od5, .func (PySem.W.fnOf "check_cursors" "check_cursors" (defArgs s_check_cursors) (defBody s_check_cursors) (defScope s_check_cursors) .none kV5 dc5 pm5 an5 cd5 ct5), sl5⟩)
    (c5 : PySem.W.codeIn K cd5 "check_cursors" = true)
    (k5 : PySem.W.keepIn K (.ref f5) = true)
    (a6 : PySem.W.nsIn K mainGlobals "is_key" = some (some (.ref f6)))
    (l6 : K.lookup f6 = some ⟨oc6, od6, .func (PySem.W.fnOf "is_key" "is_key" (defArgs s_is_key) (defBody s_is_key) (defScope s_is_key) .none kV6 dc6 pm6 an6 cd6 ct6), sl6⟩)
    (c6 : PySem.W.codeIn K cd6 "is_key" = true)
    (k6 : PySem.W.keepIn K (.ref f6) = true)
    (a7 : PySem.W.nsIn K mainGlobals "is_keys" = some (some (.ref f7)))
    (l7 : K.lookup f7 = some ⟨oc7, od7, .func (PySem.W.fnOf "is_keys" "is_keys" (defArgs s_is_keys) (defBody s_is_keys) (defScope s_is_keys) .none kV7 dc7 pm7 an7 cd7 ct7), sl7⟩)
    (c7 : PySem.W.codeIn K cd7 "is_keys" = true)
    (k7 : PySem.W.keepIn K (.ref f7) = true)
    (a8 : PySem.W.nsIn K mainGlobals "check_keys" = some (some (.ref f8)))
    (l8 : K.lookup f8 = some ⟨oc8, od8, .func (PySem.W.fnOf "check_keys" "check_keys" (defArgs s_check_keys) (defBody s_check_keys) (defScope s_check_keys) .none kV8 dc8 pm8 an8 cd8 ct8), sl8⟩)
    (c8 : PySem.W.codeIn K cd8 "check_keys" = true)
    (k8 : PySem.W.keepIn K (.ref f8) = true)
    (a9 : PySem.W.nsIn K mainGlobals "stretches_of" = some (some (.ref f9)))
    (l9 : K.lookup f9 = some ⟨oc9, od9, .func (PySem.W.fnOf "stretches_of" "stretches_of" (defArgs s_stretches_of) (defBody s_stretches_of) (defScope s_stretches_of) .none kV9 dc9 pm9 an9 cd9 ct9), sl9⟩)
    (c9 : PySem.W.codeIn K cd9 "stretches_of" = true)
    (k9 : PySem.W.keepIn K (.ref f9) = true)
    (a10 : PySem.W.nsIn K mainGlobals "places_without_copies" = some (some (.ref f10)))
    (l10 : K.lookup f10 = some ⟨oc10, od10, .func (PySem.W.fnOf "places_without_copies" "places_without_copies" (defArgs s_places_without_copies) (defBody s_places_without_copies) (defScope s_places_without_copies) .none kV10 dc10 pm10 an10 cd10 ct10), sl10⟩)
    (c10 : PySem.W.codeIn K cd10 "places_without_copies" = true)
    (k10 : PySem.W.keepIn K (.ref f10) = true)
    (a11 : PySem.W.nsIn K mainGlobals "state_with" = some (some (.ref f11)))
    (l11 : K.lookup f11 = some ⟨oc11, od11, .func (PySem.W.fnOf "state_with" "state_with" (defArgs s_state_with) (defBody s_state_with) (defScope s_state_with) .none kV11 dc11 pm11 an11 cd11 ct11), sl11⟩)
    (c11 : PySem.W.codeIn K cd11 "state_with" = true)
    (k11 : PySem.W.keepIn K (.ref f11) = true)
    (a12 : PySem.W.nsIn K mainGlobals "step_key" = some (some (.ref f12)))
    (l12 : K.lookup f12 = some ⟨oc12, od12, .func (PySem.W.fnOf "step_key" "step_key" (defArgs s_step_key) (defBody s_step_key) (defScope s_step_key) .none kV12 dc12 pm12 an12 cd12 ct12), sl12⟩)
    (c12 : PySem.W.codeIn K cd12 "step_key" = true)
    (k12 : PySem.W.keepIn K (.ref f12) = true)
    (a13 : PySem.W.nsIn K mainGlobals "pressed" = some (some (.ref f13)))
    (l13 : K.lookup f13 = some ⟨oc13, od13, .func (PySem.W.fnOf "pressed" "pressed" (defArgs s_pressed) (defBody s_pressed) (defScope s_pressed) .none kV13 dc13 pm13 an13 cd13 ct13), sl13⟩)
    (c13 : PySem.W.codeIn K cd13 "pressed" = true)
    (k13 : PySem.W.keepIn K (.ref f13) = true)
    (a14 : PySem.W.nsIn K mainGlobals "_law_draw" = some (some (.ref f14)))
    (l14 : K.lookup f14 = some ⟨oc14, od14, .func (PySem.W.fnOf "_law_draw" "_law_draw" (defArgs s_law_draw) (defBody s_law_draw) (defScope s_law_draw) .none kV14 dc14 pm14 an14 cd14 ct14), sl14⟩)
    (c14 : PySem.W.codeIn K cd14 "_law_draw" = true)
    (k14 : PySem.W.keepIn K (.ref f14) = true)
    (a15 : PySem.W.nsIn K mainGlobals "_law_strokes" = some (some (.ref f15)))
    (l15 : K.lookup f15 = some ⟨oc15, od15, .func (PySem.W.fnOf "_law_strokes" "_law_strokes" (defArgs s_law_strokes) (defBody s_law_strokes) (defScope s_law_strokes) .none kV15 dc15 pm15 an15 cd15 ct15), sl15⟩)
    (c15 : PySem.W.codeIn K cd15 "_law_strokes" = true)
    (k15 : PySem.W.keepIn K (.ref f15) = true)
    (a16 : PySem.W.nsIn K mainGlobals "far_run" = some (some (.ref f16)))
    (l16 : K.lookup f16 = some ⟨oc16, od16, .func (PySem.W.fnOf "far_run" "far_run" (defArgs s_far_run) (defBody s_far_run) (defScope s_far_run) .none kV16 dc16 pm16 an16 cd16 ct16), sl16⟩)
    (c16 : PySem.W.codeIn K cd16 "far_run" = true)
    (k16 : PySem.W.keepIn K (.ref f16) = true)
    (a17 : PySem.W.nsIn K mainGlobals "reach_of" = some (some (.ref f17)))
    (l17 : K.lookup f17 = some ⟨oc17, od17, .func (PySem.W.fnOf "reach_of" "reach_of" (defArgs s_reach_of) (defBody s_reach_of) (defScope s_reach_of) .none kV17 dc17 pm17 an17 cd17 ct17), sl17⟩)
    (c17 : PySem.W.codeIn K cd17 "reach_of" = true)
    (k17 : PySem.W.keepIn K (.ref f17) = true)
    (a18 : PySem.W.nsIn K mainGlobals "_law_letters" = some (some (.ref f18)))
    (l18 : K.lookup f18 = some ⟨oc18, od18, .func (PySem.W.fnOf "_law_letters" "_law_letters" (defArgs s_law_letters) (defBody s_law_letters) (defScope s_law_letters) .none kV18 dc18 pm18 an18 cd18 ct18), sl18⟩)
    (c18 : PySem.W.codeIn K cd18 "_law_letters" = true)
    (k18 : PySem.W.keepIn K (.ref f18) = true)
    (a19 : PySem.W.nsIn K mainGlobals "_law_text" = some (some (.ref f19)))
    (l19 : K.lookup f19 = some ⟨oc19, od19, .func (PySem.W.fnOf "_law_text" "_law_text" (defArgs s_law_text) (defBody s_law_text) (defScope s_law_text) .none kV19 dc19 pm19 an19 cd19 ct19), sl19⟩)
    (c19 : PySem.W.codeIn K cd19 "_law_text" = true)
    (k19 : PySem.W.keepIn K (.ref f19) = true)
    (a20 : PySem.W.nsIn K mainGlobals "_law_alone" = some (some (.ref f20)))
    (l20 : K.lookup f20 = some ⟨oc20, od20, .func (PySem.W.fnOf "_law_alone" "_law_alone" (defArgs s_law_alone) (defBody s_law_alone) (defScope s_law_alone) .none kV20 dc20 pm20 an20 cd20 ct20), sl20⟩)
    (c20 : PySem.W.codeIn K cd20 "_law_alone" = true)
    (k20 : PySem.W.keepIn K (.ref f20) = true)
    (a21 : PySem.W.findIn K (.ref Cl_Editor) "__init__" = some (some (.ref f21)))
    (i21 : PySem.W.isFn K (.ref f21) = true)
    (l21 : K.lookup f21 = some ⟨oc21, od21, .func (PySem.W.fnOf "__init__" "Editor.__init__" (defArgs s_Editor___init__) (defBody s_Editor___init__) (defScope s_Editor___init__) (.ref dt21) kV21 dc21 pm21 an21 cd21 ct21), sl21⟩)
    (ld21 : K.lookup dt21 = some ⟨dc_21, dd_21, .seq [dv21_0, dv21_1].toArray dz_21, ds_21⟩)
    (c21 : PySem.W.codeIn K cd21 "Editor.__init__" = true)
    (k21 : PySem.W.keepIn K (.ref f21) = true)
    (a22 : PySem.W.findIn K (.ref Cl_Editor) "state_behind" = some (some (.ref f22)))
    (i22 : PySem.W.isFn K (.ref f22) = true)
    (l22 : K.lookup f22 = some ⟨oc22, od22, .func (PySem.W.fnOf "state_behind" "Editor.state_behind" (defArgs s_Editor_state_behind) (defBody s_Editor_state_behind) (defScope s_Editor_state_behind) .none kV22 dc22 pm22 an22 cd22 ct22), sl22⟩)
    (c22 : PySem.W.codeIn K cd22 "Editor.state_behind" = true)
    (k22 : PySem.W.keepIn K (.ref f22) = true)
    (a23 : PySem.W.findIn K (.ref Cl_Editor) "check_meeting" = some (some (.ref f23)))
    (i23 : PySem.W.isFn K (.ref f23) = true)
    (l23 : K.lookup f23 = some ⟨oc23, od23, .func (PySem.W.fnOf "check_meeting" "Editor.check_meeting" (defArgs s_Editor_check_meeting) (defBody s_Editor_check_meeting) (defScope s_Editor_check_meeting) .none kV23 dc23 pm23 an23 cd23 ct23), sl23⟩)
    (c23 : PySem.W.codeIn K cd23 "Editor.check_meeting" = true)
    (k23 : PySem.W.keepIn K (.ref f23) = true)
    (a24 : PySem.W.findIn K (.ref Cl_Editor) "state_after" = some (some (.ref f24)))
    (i24 : PySem.W.isFn K (.ref f24) = true)
    (l24 : K.lookup f24 = some ⟨oc24, od24, .func (PySem.W.fnOf "state_after" "Editor.state_after" (defArgs s_Editor_state_after) (defBody s_Editor_state_after) (defScope s_Editor_state_after) .none kV24 dc24 pm24 an24 cd24 ct24), sl24⟩)
    (c24 : PySem.W.codeIn K cd24 "Editor.state_after" = true)
    (k24 : PySem.W.keepIn K (.ref f24) = true)
    (a25 : PySem.W.findIn K (.ref Cl_Editor) "press_all" = some (some (.ref f25)))
    (i25 : PySem.W.isFn K (.ref f25) = true)
    (l25 : K.lookup f25 = some ⟨oc25, od25, .func (PySem.W.fnOf "press_all" "Editor.press_all" (defArgs s_Editor_press_all) (defBody s_Editor_press_all) (defScope s_Editor_press_all) .none kV25 dc25 pm25 an25 cd25 ct25), sl25⟩)
    (c25 : PySem.W.codeIn K cd25 "Editor.press_all" = true)
    (k25 : PySem.W.keepIn K (.ref f25) = true)
    (a26 : PySem.W.findIn K (.ref Cl_Editor) "press" = some (some (.ref f26)))
    (i26 : PySem.W.isFn K (.ref f26) = true)
    (l26 : K.lookup f26 = some ⟨oc26, od26, .func (PySem.W.fnOf "press" "Editor.press" (defArgs s_Editor_press) (defBody s_Editor_press) (defScope s_Editor_press) .none kV26 dc26 pm26 an26 cd26 ct26), sl26⟩)
    (c26 : PySem.W.codeIn K cd26 "Editor.press" = true)
    (k26 : PySem.W.keepIn K (.ref f26) = true)
    (a27 : PySem.W.nsIn K mainGlobals "effect_of" = some (some (.ref f27)))
    (l27 : K.lookup f27 = some ⟨oc27, od27, .func (PySem.W.fnOf "effect_of" "effect_of" (defArgs s_effect_of) (defBody s_effect_of) (defScope s_effect_of) .none kV27 dc27 pm27 an27 cd27 ct27), sl27⟩)
    (c27 : PySem.W.codeIn K cd27 "effect_of" = true)
    (k27 : PySem.W.keepIn K (.ref f27) = true)
    (a28 : PySem.W.nsIn K mainGlobals "far_effect" = some (some (.ref f28)))
    (l28 : K.lookup f28 = some ⟨oc28, od28, .func (PySem.W.fnOf "far_effect" "far_effect" (defArgs s_far_effect) (defBody s_far_effect) (defScope s_far_effect) .none kV28 dc28 pm28 an28 cd28 ct28), sl28⟩)
    (c28 : PySem.W.codeIn K cd28 "far_effect" = true)
    (k28 : PySem.W.keepIn K (.ref f28) = true)
    (a29 : PySem.W.nsIn K mainGlobals "sums_of" = some (some (.ref f29)))
    (l29 : K.lookup f29 = some ⟨oc29, od29, .func (PySem.W.fnOf "sums_of" "sums_of" (defArgs s_sums_of) (defBody s_sums_of) (defScope s_sums_of) .none kV29 dc29 pm29 an29 cd29 ct29), sl29⟩)
    (c29 : PySem.W.codeIn K cd29 "sums_of" = true)
    (k29 : PySem.W.keepIn K (.ref f29) = true)
    (a30 : PySem.W.nsIn K mainGlobals "depth_of" = some (some (.ref f30)))
    (l30 : K.lookup f30 = some ⟨oc30, od30, .func (PySem.W.fnOf "depth_of" "depth_of" (defArgs s_depth_of) (defBody s_depth_of) (defScope s_depth_of) .none kV30 dc30 pm30 an30 cd30 ct30), sl30⟩)
    (c30 : PySem.W.codeIn K cd30 "depth_of" = true)
    (k30 : PySem.W.keepIn K (.ref f30) = true)
    (a31 : PySem.W.findIn K (.ref Cl_Editor) "text_now" = some (some (.ref pr31)))
    (pa31 : PySem.W.specialIn K (.ref pr31) "__get__" = some (some (.builtin "property.__get__")))
    (pb31 : PySem.W.takesIn K (.ref pr31) = some true)
    (pc31 : PySem.W.recIn K pr31 "property" = some (.ref f31 :: rs31))
    (l31 : K.lookup f31 = some ⟨oc31, od31, .func (PySem.W.fnOf "text_now" "Editor.text_now" (defArgs s_Editor_text_now) (defBody s_Editor_text_now) (defScope s_Editor_text_now) .none kV31 dc31 pm31 an31 cd31 ct31), sl31⟩)
    (c31 : PySem.W.codeIn K cd31 "Editor.text_now" = true)
    (k31 : PySem.W.keepIn K (.ref f31) = true)
    (a32 : PySem.W.findIn K (.ref Cl_Editor) "cursors_now" = some (some (.ref pr32)))
    (pa32 : PySem.W.specialIn K (.ref pr32) "__get__" = some (some (.builtin "property.__get__")))
    (pb32 : PySem.W.takesIn K (.ref pr32) = some true)
    (pc32 : PySem.W.recIn K pr32 "property" = some (.ref f32 :: rs32))
    (l32 : K.lookup f32 = some ⟨oc32, od32, .func (PySem.W.fnOf "cursors_now" "Editor.cursors_now" (defArgs s_Editor_cursors_now) (defBody s_Editor_cursors_now) (defScope s_Editor_cursors_now) .none kV32 dc32 pm32 an32 cd32 ct32), sl32⟩)
    (c32 : PySem.W.codeIn K cd32 "Editor.cursors_now" = true)
    (k32 : PySem.W.keepIn K (.ref f32) = true)
    (a33 : PySem.W.nsIn K mainGlobals "_law_far_right" = some (some (.ref f33)))
    (l33 : K.lookup f33 = some ⟨oc33, od33, .func (PySem.W.fnOf "_law_far_right" "_law_far_right" (defArgs s_law_far_right) (defBody s_law_far_right) (defScope s_law_far_right) .none kV33 dc33 pm33 an33 cd33 ct33), sl33⟩)
    (c33 : PySem.W.codeIn K cd33 "_law_far_right" = true)
    (k33 : PySem.W.keepIn K (.ref f33) = true)
    (a34 : PySem.W.nsIn K mainGlobals "layout_of" = some (some (.ref f34)))
    (l34 : K.lookup f34 = some ⟨oc34, od34, .func (PySem.W.fnOf "layout_of" "layout_of" (defArgs s_layout_of) (defBody s_layout_of) (defScope s_layout_of) .none kV34 dc34 pm34 an34 cd34 ct34), sl34⟩)
    (c34 : PySem.W.codeIn K cd34 "layout_of" = true)
    (k34 : PySem.W.keepIn K (.ref f34) = true)
    (a35 : PySem.W.nsIn K mainGlobals "net_of" = some (some (.ref f35)))
    (l35 : K.lookup f35 = some ⟨oc35, od35, .func (PySem.W.fnOf "net_of" "net_of" (defArgs s_net_of) (defBody s_net_of) (defScope s_net_of) .none kV35 dc35 pm35 an35 cd35 ct35), sl35⟩)
    (c35 : PySem.W.codeIn K cd35 "net_of" = true)
    (k35 : PySem.W.keepIn K (.ref f35) = true)
    (a36 : PySem.W.nsIn K mainGlobals "_law_near_right" = some (some (.ref f36)))
    (l36 : K.lookup f36 = some ⟨oc36, od36, .func (PySem.W.fnOf "_law_near_right" "_law_near_right" (defArgs s_law_near_right) (defBody s_law_near_right) (defScope s_law_near_right) .none kV36 dc36 pm36 an36 cd36 ct36), sl36⟩)
    (c36 : PySem.W.codeIn K cd36 "_law_near_right" = true)
    (k36 : PySem.W.keepIn K (.ref f36) = true)
    (a37 : PySem.W.nsIn K mainGlobals "law" = some (some (.ref f37)))
    (l37 : K.lookup f37 = some ⟨oc37, od37, .func (PySem.W.fnOf "law" "law" (defArgs s_law) (defBody s_law) (defScope s_law) .none kV37 dc37 pm37 an37 cd37 ct37), sl37⟩)
    (c37 : PySem.W.codeIn K cd37 "law" = true)
    (k37 : PySem.W.keepIn K (.ref f37) = true)
    (ca0 : PySem.W.nsIn K mainGlobals "InvalidCursors" = some (some (.ref C0)))
    (cb0 : PySem.W.excIn K C0 [.type "ValueError", .type "Exception", .type "BaseException", .type "object"] "ValueError.__new__" = true)
    (cc0 : PySem.W.keepIn K (.ref C0) = true)
    (cd_0 : PySem.W.subIn K (.ref C0) (.type "BaseException") = some true)
    (ce0 : PySem.W.typeIn K (.ref C0) = some (.type "type"))
    (ca1 : PySem.W.nsIn K mainGlobals "InvalidKeys" = some (some (.ref C1)))
    (cb1 : PySem.W.excIn K C1 [.type "ValueError", .type "Exception", .type "BaseException", .type "object"] "ValueError.__new__" = true)
    (cc1 : PySem.W.keepIn K (.ref C1) = true)
    (cd_1 : PySem.W.subIn K (.ref C1) (.type "BaseException") = some true)
    (ce1 : PySem.W.typeIn K (.ref C1) = some (.type "type"))
    (ca2 : PySem.W.nsIn K mainGlobals "InvalidText" = some (some (.ref C2)))
    (cb2 : PySem.W.excIn K C2 [.type "ValueError", .type "Exception", .type "BaseException", .type "object"] "ValueError.__new__" = true)
    (cc2 : PySem.W.keepIn K (.ref C2) = true)
    (cd_2 : PySem.W.subIn K (.ref C2) (.type "BaseException") = some true)
    (ce2 : PySem.W.typeIn K (.ref C2) = some (.type "type"))
    (q3 : PySem.W.nsIn K mainGlobals "BACKSPACE" = some (some (.str (S [45]) t3)))
    (q4 : PySem.W.nsIn K mainGlobals "CAPITALS" = some (some (.str cUp t4)))
    (q5 : PySem.W.nsIn K mainGlobals "DELETE" = some (some (.str (S [35]) t5)))
    (q6 : PySem.W.nsIn K mainGlobals "LEFT" = some (some (.str (S [60]) t6)))
    (q7 : PySem.W.nsIn K mainGlobals "LETTERS" = some (some (.str cLow t7)))
    (q8 : PySem.W.nsIn K mainGlobals "RIGHT" = some (some (.str (S [62]) t8)))
    (z46 : PySem.W.nsIn K mainGlobals "abs" = some none)
    (z47 : PySem.W.nsIn K mainGlobals "all" = some none)
    (z48 : PySem.W.nsIn K mainGlobals "bool" = some none)
    (z49 : PySem.W.nsIn K mainGlobals "enumerate" = some none)
    (z50 : PySem.W.nsIn K mainGlobals "int" = some none)
    (z51 : PySem.W.nsIn K mainGlobals "isinstance" = some none)
    (z52 : PySem.W.nsIn K mainGlobals "len" = some none)
    (z53 : PySem.W.nsIn K mainGlobals "max" = some none)
    (z54 : PySem.W.nsIn K mainGlobals "min" = some none)
    (z55 : PySem.W.nsIn K mainGlobals "range" = some none)
    (z56 : PySem.W.nsIn K mainGlobals "str" = some none)
    (z57 : PySem.W.nsIn K mainGlobals "tuple" = some none)
    (z58 : PySem.W.nsIn K mainGlobals "zip" = some none)
    (nf9_Editor : PySem.W.findIn K (.ref Cl_Editor) "past" = some none)
    (nf10_Editor : PySem.W.findIn K (.ref Cl_Editor) "state" = some none) :
    ∃ fd : FuncData, (∀ (s : Shared) (v : Value), BindsTo s fd ⟨[v], []⟩ [("script", v)]) ∧ ∀ base : Heap, K.In base → base.Ns mainGlobals mg → FnG l.prog w K mg base 9 fa fd ["script"] F_law_k51 := by
  have e := Value.ref.inj (Option.some.inj ((PySem.W.mg_of X G a37).symm.trans hfa))
  subst e
  let a : Nat → Addr := fun i => [f0, f1, f2, f3, f4, f5, f6, f7, f8, f9, f10, f11, f12, f13, f14, f15, f16, f17, f18, f19, f20, f21, f22, f23, f24, f25, f26, f27, f28, f29, f30, f31, f32, f33, f34, f35, f36, f37].getD i 0
  let g : Nat → FuncData := fun i => [PySem.W.fnOf "_law_pool" "_law_pool" (defArgs s_law_pool) (defBody s_law_pool) (defScope s_law_pool) .none kV0 dc0 pm0 an0 cd0 ct0, PySem.W.fnOf "is_text" "is_text" (defArgs s_is_text) (defBody s_is_text) (defScope s_is_text) .none kV1 dc1 pm1 an1 cd1 ct1, PySem.W.fnOf "check_text" "check_text" (defArgs s_check_text) (defBody s_check_text) (defScope s_check_text) .none kV2 dc2 pm2 an2 cd2 ct2, PySem.W.fnOf "is_integer" "is_integer" (defArgs s_is_integer) (defBody s_is_integer) (defScope s_is_integer) .none kV3 dc3 pm3 an3 cd3 ct3, PySem.W.fnOf "is_cursors" "is_cursors" (defArgs s_is_cursors) (defBody s_is_cursors) (defScope s_is_cursors) .none kV4 dc4 pm4 an4 cd4 ct4, PySem.W.fnOf "check_cursors" "check_cursors" (defArgs s_check_cursors) (defBody s_check_cursors) (defScope s_check_cursors) .none kV5 dc5 pm5 an5 cd5 ct5, PySem.W.fnOf "is_key" "is_key" (defArgs s_is_key) (defBody s_is_key) (defScope s_is_key) .none kV6 dc6 pm6 an6 cd6 ct6, PySem.W.fnOf "is_keys" "is_keys" (defArgs s_is_keys) (defBody s_is_keys) (defScope s_is_keys) .none kV7 dc7 pm7 an7 cd7 ct7, PySem.W.fnOf "check_keys" "check_keys" (defArgs s_check_keys) (defBody s_check_keys) (defScope s_check_keys) .none kV8 dc8 pm8 an8 cd8 ct8, PySem.W.fnOf "stretches_of" "stretches_of" (defArgs s_stretches_of) (defBody s_stretches_of) (defScope s_stretches_of) .none kV9 dc9 pm9 an9 cd9 ct9, PySem.W.fnOf "places_without_copies" "places_without_copies" (defArgs s_places_without_copies) (defBody s_places_without_copies) (defScope s_places_without_copies) .none kV10 dc10 pm10 an10 cd10 ct10, PySem.W.fnOf "state_with" "state_with" (defArgs s_state_with) (defBody s_state_with) (defScope s_state_with) .none kV11 dc11 pm11 an11 cd11 ct11, PySem.W.fnOf "step_key" "step_key" (defArgs s_step_key) (defBody s_step_key) (defScope s_step_key) .none kV12 dc12 pm12 an12 cd12 ct12, PySem.W.fnOf "pressed" "pressed" (defArgs s_pressed) (defBody s_pressed) (defScope s_pressed) .none kV13 dc13 pm13 an13 cd13 ct13, PySem.W.fnOf "_law_draw" "_law_draw" (defArgs s_law_draw) (defBody s_law_draw) (defScope s_law_draw) .none kV14 dc14 pm14 an14 cd14 ct14, PySem.W.fnOf "_law_strokes" "_law_strokes" (defArgs s_law_strokes) (defBody s_law_strokes) (defScope s_law_strokes) .none kV15 dc15 pm15 an15 cd15 ct15, PySem.W.fnOf "far_run" "far_run" (defArgs s_far_run) (defBody s_far_run) (defScope s_far_run) .none kV16 dc16 pm16 an16 cd16 ct16, PySem.W.fnOf "reach_of" "reach_of" (defArgs s_reach_of) (defBody s_reach_of) (defScope s_reach_of) .none kV17 dc17 pm17 an17 cd17 ct17, PySem.W.fnOf "_law_letters" "_law_letters" (defArgs s_law_letters) (defBody s_law_letters) (defScope s_law_letters) .none kV18 dc18 pm18 an18 cd18 ct18, PySem.W.fnOf "_law_text" "_law_text" (defArgs s_law_text) (defBody s_law_text) (defScope s_law_text) .none kV19 dc19 pm19 an19 cd19 ct19, PySem.W.fnOf "_law_alone" "_law_alone" (defArgs s_law_alone) (defBody s_law_alone) (defScope s_law_alone) .none kV20 dc20 pm20 an20 cd20 ct20, PySem.W.fnOf "__init__" "Editor.__init__" (defArgs s_Editor___init__) (defBody s_Editor___init__) (defScope s_Editor___init__) (.ref dt21) kV21 dc21 pm21 an21 cd21 ct21, PySem.W.fnOf "state_behind" "Editor.state_behind" (defArgs s_Editor_state_behind) (defBody s_Editor_state_behind) (defScope s_Editor_state_behind) .none kV22 dc22 pm22 an22 cd22 ct22, PySem.W.fnOf "check_meeting" "Editor.check_meeting" (defArgs s_Editor_check_meeting) (defBody s_Editor_check_meeting) (defScope s_Editor_check_meeting) .none kV23 dc23 pm23 an23 cd23 ct23, PySem.W.fnOf "state_after" "Editor.state_after" (defArgs s_Editor_state_after) (defBody s_Editor_state_after) (defScope s_Editor_state_after) .none kV24 dc24 pm24 an24 cd24 ct24, PySem.W.fnOf "press_all" "Editor.press_all" (defArgs s_Editor_press_all) (defBody s_Editor_press_all) (defScope s_Editor_press_all) .none kV25 dc25 pm25 an25 cd25 ct25, PySem.W.fnOf "press" "Editor.press" (defArgs s_Editor_press) (defBody s_Editor_press) (defScope s_Editor_press) .none kV26 dc26 pm26 an26 cd26 ct26, PySem.W.fnOf "effect_of" "effect_of" (defArgs s_effect_of) (defBody s_effect_of) (defScope s_effect_of) .none kV27 dc27 pm27 an27 cd27 ct27, PySem.W.fnOf "far_effect" "far_effect" (defArgs s_far_effect) (defBody s_far_effect) (defScope s_far_effect) .none kV28 dc28 pm28 an28 cd28 ct28, PySem.W.fnOf "sums_of" "sums_of" (defArgs s_sums_of) (defBody s_sums_of) (defScope s_sums_of) .none kV29 dc29 pm29 an29 cd29 ct29, PySem.W.fnOf "depth_of" "depth_of" (defArgs s_depth_of) (defBody s_depth_of) (defScope s_depth_of) .none kV30 dc30 pm30 an30 cd30 ct30, PySem.W.fnOf "text_now" "Editor.text_now" (defArgs s_Editor_text_now) (defBody s_Editor_text_now) (defScope s_Editor_text_now) .none kV31 dc31 pm31 an31 cd31 ct31, PySem.W.fnOf "cursors_now" "Editor.cursors_now" (defArgs s_Editor_cursors_now) (defBody s_Editor_cursors_now) (defScope s_Editor_cursors_now) .none kV32 dc32 pm32 an32 cd32 ct32, PySem.W.fnOf "_law_far_right" "_law_far_right" (defArgs s_law_far_right) (defBody s_law_far_right) (defScope s_law_far_right) .none kV33 dc33 pm33 an33 cd33 ct33, PySem.W.fnOf "layout_of" "layout_of" (defArgs s_layout_of) (defBody s_layout_of) (defScope s_layout_of) .none kV34 dc34 pm34 an34 cd34 ct34, PySem.W.fnOf "net_of" "net_of" (defArgs s_net_of) (defBody s_net_of) (defScope s_net_of) .none kV35 dc35 pm35 an35 cd35 ct35, PySem.W.fnOf "_law_near_right" "_law_near_right" (defArgs s_law_near_right) (defBody s_law_near_right) (defScope s_law_near_right) .none kV36 dc36 pm36 an36 cd36 ct36, PySem.W.fnOf "law" "law" (defArgs s_law) (defBody s_law) (defScope s_law) .none kV37 dc37 pm37 an37 cd37 ct37].getD i (PySem.W.fnOf "law" "law" (defArgs s_law) (defBody s_law) (defScope s_law) .none kV37 dc37 pm37 an37 cd37 ct37)
  have T : Tx K mg a g := {
    m_law_pool := PySem.W.mg_of X G a0,
    f_law_pool := fun_mk (st := s_law_pool) l0 c0 k0,
    m_is_text := PySem.W.mg_of X G a1,
    f_is_text := fun_mk (st := s_is_text) l1 c1 k1,
    m_check_text := PySem.W.mg_of X G a2,
    f_check_text := fun_mk (st := s_check_text) l2 c2 k2,
    m_is_integer := PySem.W.mg_of X G a3,
    f_is_integer := fun_mk (st := s_is_integer) l3 c3 k3,
    m_is_cursors := PySem.W.mg_of X G a4,
    f_is_cursors := fun_mk (st := s_is_cursors) l4 c4 k4,
    m_check_cursors := PySem.W.mg_of X G a5,
    f_check_cursors := fun_mk (st := s_check_cursors) l5 c5 k5,
    m_is_key := PySem.W.mg_of X G a6,
    f_is_key := fun_mk (st := s_is_key) l6 c6 k6,
    m_is_keys := PySem.W.mg_of X G a7,
    f_is_keys := fun_mk (st := s_is_keys) l7 c7 k7,
    m_check_keys := PySem.W.mg_of X G a8,
    f_check_keys := fun_mk (st := s_check_keys) l8 c8 k8,
    m_stretches_of := PySem.W.mg_of X G a9,
    f_stretches_of := fun_mk (st := s_stretches_of) l9 c9 k9,
    m_places_without_copies := PySem.W.mg_of X G a10,
    f_places_without_copies := fun_mk (st := s_places_without_copies) l10 c10 k10,
    m_state_with := PySem.W.mg_of X G a11,
    f_state_with := fun_mk (st := s_state_with) l11 c11 k11,
    m_step_key := PySem.W.mg_of X G a12,
    f_step_key := fun_mk (st := s_step_key) l12 c12 k12,
    m_pressed := PySem.W.mg_of X G a13,
    f_pressed := fun_mk (st := s_pressed) l13 c13 k13,
    m_law_draw := PySem.W.mg_of X G a14,
    f_law_draw := fun_mk (st := s_law_draw) l14 c14 k14,
    m_law_strokes := PySem.W.mg_of X G a15,
    f_law_strokes := fun_mk (st := s_law_strokes) l15 c15 k15,
    m_far_run := PySem.W.mg_of X G a16,
    f_far_run := fun_mk (st := s_far_run) l16 c16 k16,
    m_reach_of := PySem.W.mg_of X G a17,
    f_reach_of := fun_mk (st := s_reach_of) l17 c17 k17,
    m_law_letters := PySem.W.mg_of X G a18,
    f_law_letters := fun_mk (st := s_law_letters) l18 c18 k18,
    m_law_text := PySem.W.mg_of X G a19,
    f_law_text := fun_mk (st := s_law_text) l19 c19 k19,
    m_law_alone := PySem.W.mg_of X G a20,
    f_law_alone := fun_mk (st := s_law_alone) l20 c20 k20,
    f_Editor___init__ := funT_mk (st := s_Editor___init__) (n := 2) l21 c21 k21 ld21 rfl rfl,
    f_Editor_state_behind := fun_mk (st := s_Editor_state_behind) l22 c22 k22,
    f_Editor_check_meeting := fun_mk (st := s_Editor_check_meeting) l23 c23 k23,
    f_Editor_state_after := fun_mk (st := s_Editor_state_after) l24 c24 k24,
    f_Editor_press_all := fun_mk (st := s_Editor_press_all) l25 c25 k25,
    f_Editor_press := fun_mk (st := s_Editor_press) l26 c26 k26,
    m_effect_of := PySem.W.mg_of X G a27,
    f_effect_of := fun_mk (st := s_effect_of) l27 c27 k27,
    m_far_effect := PySem.W.mg_of X G a28,
    f_far_effect := fun_mk (st := s_far_effect) l28 c28 k28,
    m_sums_of := PySem.W.mg_of X G a29,
    f_sums_of := fun_mk (st := s_sums_of) l29 c29 k29,
    m_depth_of := PySem.W.mg_of X G a30,
    f_depth_of := fun_mk (st := s_depth_of) l30 c30 k30,
    f_Editor_text_now := fun_mk (st := s_Editor_text_now) l31 c31 k31,
    f_Editor_cursors_now := fun_mk (st := s_Editor_cursors_now) l32 c32 k32,
    m_law_far_right := PySem.W.mg_of X G a33,
    f_law_far_right := fun_mk (st := s_law_far_right) l33 c33 k33,
    m_layout_of := PySem.W.mg_of X G a34,
    f_layout_of := fun_mk (st := s_layout_of) l34 c34 k34,
    m_net_of := PySem.W.mg_of X G a35,
    f_net_of := fun_mk (st := s_net_of) l35 c35 k35,
    m_law_near_right := PySem.W.mg_of X G a36,
    f_law_near_right := fun_mk (st := s_law_near_right) l36 c36 k36,
    m_law := PySem.W.mg_of X G a37,
    f_law := fun_mk (st := s_law) l37 c37 k37,
    cl_InvalidCursors := ⟨_, _, PySem.W.mg_of X G ca0, cb0, cc0, cd_0, ce0, rfl⟩,
    cl_InvalidKeys := ⟨_, _, PySem.W.mg_of X G ca1, cb1, cc1, cd_1, ce1, rfl⟩,
    cl_InvalidText := ⟨_, _, PySem.W.mg_of X G ca2, cb2, cc2, cd_2, ce2, rfl⟩,
    cx_BACKSPACE := ⟨_, PySem.W.mg_of X G q3⟩,
    cx_CAPITALS := ⟨_, PySem.W.mg_of X G q4⟩,
    cx_DELETE := ⟨_, PySem.W.mg_of X G q5⟩,
    cx_LEFT := ⟨_, PySem.W.mg_of X G q6⟩,
    cx_LETTERS := ⟨_, PySem.W.mg_of X G q7⟩,
    cx_RIGHT := ⟨_, PySem.W.mg_of X G q8⟩,
    z_abs := PySem.W.mg_none_of X G z46,
    z_all := PySem.W.mg_none_of X G z47,
    z_bool := PySem.W.mg_none_of X G z48,
    z_enumerate := PySem.W.mg_none_of X G z49,
    z_int := PySem.W.mg_none_of X G z50,
    z_isinstance := PySem.W.mg_none_of X G z51,
    z_len := PySem.W.mg_none_of X G z52,
    z_max := PySem.W.mg_none_of X G z53,
    z_min := PySem.W.mg_none_of X G z54,
    z_range := PySem.W.mg_none_of X G z55,
    z_str := PySem.W.mg_none_of X G z56,
    z_tuple := PySem.W.mg_none_of X G z57,
    z_zip := PySem.W.mg_none_of X G z58,
    cf_past := (clf_cons (PySem.W.mg_of X G cg_Editor) rfl ⟨cp_Editor, ch_Editor, co_Editor, cs_Editor⟩ nf9_Editor clf_nil),
    cf_state := (clf_cons (PySem.W.mg_of X G cg_Editor) rfl ⟨cp_Editor, ch_Editor, co_Editor, cs_Editor⟩ nf10_Editor clf_nil),
    mk_Editor := ⟨_, PySem.W.mg_of X G cg_Editor, ⟨cm_Editor, a21, i21, ck_Editor⟩⟩,
    me_Editor_check_meeting := ⟨_, PySem.W.mg_of X G cg_Editor, ⟨cp_Editor, ch_Editor, co_Editor, cs_Editor⟩, ⟨a23, i23, k23⟩⟩,
    me_Editor_press := ⟨_, PySem.W.mg_of X G cg_Editor, ⟨cp_Editor, ch_Editor, co_Editor, cs_Editor⟩, ⟨a26, i26, k26⟩⟩,
    me_Editor_press_all := ⟨_, PySem.W.mg_of X G cg_Editor, ⟨cp_Editor, ch_Editor, co_Editor, cs_Editor⟩, ⟨a25, i25, k25⟩⟩,
    me_Editor_state_after := ⟨_, PySem.W.mg_of X G cg_Editor, ⟨cp_Editor, ch_Editor, co_Editor, cs_Editor⟩, ⟨a24, i24, k24⟩⟩,
    me_Editor_state_behind := ⟨_, PySem.W.mg_of X G cg_Editor, ⟨cp_Editor, ch_Editor, co_Editor, cs_Editor⟩, ⟨a22, i22, k22⟩⟩,
    pp_Editor_cursors_now := ⟨_, PySem.W.mg_of X G cg_Editor, ⟨cp_Editor, ch_Editor, co_Editor, cs_Editor⟩, _, ⟨a32, pa32, pb32, _, pc32⟩⟩,
    pp_Editor_text_now := ⟨_, PySem.W.mg_of X G cg_Editor, ⟨cp_Editor, ch_Editor, co_Editor, cs_Editor⟩, _, ⟨a31, pa31, pb31, _, pc31⟩⟩ }
  refine ⟨g 37, fun s v => .of_eq rfl, fun base _ _ => ?_⟩
  have G_law_pool := ok_law_pool (P := l.prog) (w := w) (base := base) T
  have G_is_text := ok_is_text (P := l.prog) (w := w) (base := base) T
  have G_check_text := ok_check_text (P := l.prog) (w := w) (base := base) T G_is_text
  have G_is_integer := ok_is_integer (P := l.prog) (w := w) (base := base) T
  have G_is_cursors := ok_is_cursors (P := l.prog) (w := w) (base := base) T G_is_integer
  have G_check_cursors := ok_check_cursors (P := l.prog) (w := w) (base := base) T G_is_cursors
  have G_is_key := ok_is_key (P := l.prog) (w := w) (base := base) T
  have G_is_keys := ok_is_keys (P := l.prog) (w := w) (base := base) T G_is_key
  have G_check_keys := ok_check_keys (P := l.prog) (w := w) (base := base) T G_is_keys
  have G_stretches_of := ok_stretches_of (P := l.prog) (w := w) (base := base) T
  have G_places_without_copies := ok_places_without_copies (P := l.prog) (w := w) (base := base) T
  have G_state_with := ok_state_with (P := l.prog) (w := w) (base := base) T G_places_without_copies
  have G_step_key := ok_step_key (P := l.prog) (w := w) (base := base) T G_places_without_copies G_stretches_of G_state_with
  have G_pressed := ok_pressed (P := l.prog) (w := w) (base := base) T G_check_text G_check_cursors G_check_keys G_step_key
  have G_law_draw := ok_law_draw (P := l.prog) (w := w) (base := base) T
  have G_law_strokes := ok_law_strokes (P := l.prog) (w := w) (base := base) T G_law_draw
  have G_far_run := ok_far_run (P := l.prog) (w := w) (base := base) T
  have G_reach_of := ok_reach_of (P := l.prog) (w := w) (base := base) T G_check_keys G_far_run
  have G_law_letters := ok_law_letters (P := l.prog) (w := w) (base := base) T G_law_draw
  have G_law_text := ok_law_text (P := l.prog) (w := w) (base := base) T G_law_letters
  have G_law_alone := ok_law_alone (P := l.prog) (w := w) (base := base) T
  have G_Editor___init__ := ok_Editor___init__ (P := l.prog) (w := w) (base := base) T G_check_text G_check_cursors
  have G_Editor_state_behind := ok_Editor_state_behind (P := l.prog) (w := w) (base := base) T G_step_key
  have G_Editor_check_meeting := ok_Editor_check_meeting (P := l.prog) (w := w) (base := base) T
  have G_Editor_state_after := ok_Editor_state_after (P := l.prog) (w := w) (base := base) T G_check_keys G_Editor_state_behind G_Editor_check_meeting
  have G_Editor_press_all := ok_Editor_press_all (P := l.prog) (w := w) (base := base) T G_Editor_state_after
  have G_Editor_press := ok_Editor_press (P := l.prog) (w := w) (base := base) T G_Editor_press_all
  have G_effect_of := ok_effect_of (P := l.prog) (w := w) (base := base) T G_far_run
  have G_far_effect := ok_far_effect (P := l.prog) (w := w) (base := base) T G_check_keys G_effect_of
  have G_sums_of := ok_sums_of (P := l.prog) (w := w) (base := base) T
  have G_depth_of := ok_depth_of (P := l.prog) (w := w) (base := base) T G_check_keys G_sums_of
  have G_Editor_text_now := ok_Editor_text_now (P := l.prog) (w := w) (base := base) T
  have G_Editor_cursors_now := ok_Editor_cursors_now (P := l.prog) (w := w) (base := base) T
  have G_law_far_right := ok_law_far_right (P := l.prog) (w := w) (base := base) T G_reach_of G_depth_of G_law_draw G_law_text G_law_alone G_far_effect G_Editor___init__ G_Editor_press G_pressed G_Editor_text_now G_Editor_cursors_now
  have G_layout_of := ok_layout_of (P := l.prog) (w := w) (base := base) T G_check_text G_check_cursors
  have G_net_of := ok_net_of (P := l.prog) (w := w) (base := base) T G_check_keys G_sums_of
  have G_law_near_right := ok_law_near_right (P := l.prog) (w := w) (base := base) T G_depth_of G_law_draw G_law_text G_pressed G_net_of G_layout_of
  have G_law := ok_law (P := l.prog) (w := w) (base := base) T G_law_pool G_law_strokes G_law_far_right G_law_near_right G_pressed
  exact G_law

end Dl
open PySem PySem.W PyProof.Rows
set_option maxRecDepth 100000 in
set_option maxHeartbeats 0 in
theorem PySem.Challenge.cw_cursorkeys_k51_whole_cursors_act_alone_holds : PySem.Challenge.rw_cursorkeys_k51_whole_cursors_act_alone.Holds := by
  w_on; o_law; k_head; (case hw => w_witness2)
  k_fill
  refine Dl.law_end (l := PySem.Challenge.rw_cursorkeys_k51_whole_cursors_act_alone) (n := 63) (k := 9) (sc := "script") (G := fun _ => Dl.F_law_k51) rfl (by decide) rfl ⟨rfl, by decide, by decide⟩ (fun w h Y => PySem.W.kIn_of Y) ?F (fun _ ns hl => Dl.plain_k51 ns hl)
  case F =>
    intro w mg fa h KX G hmg
    refine' Dl.all_mk KX G hmg ?cg_Editor ?cp_Editor ?ch_Editor ?co_Editor ?cs_Editor ?cm_Editor ?ck_Editor ?a0 ?l0 ?c0 ?k0 ?a1 ?l1 ?c1 ?k1 ?a2 ?l2 ?c2 ?k2 ?a3 ?l3 ?c3 ?k3 ?a4 ?l4 ?c4 ?k4 ?a5 ?l5 ?c5 ?k5 ?a6 ?l6 ?c6 ?k6 ?a7 ?l7 ?c7 ?k7 ?a8 ?l8 ?c8 ?k8 ?a9 ?l9 ?c9 ?k9 ?a10 ?l10 ?c10 ?k10 ?a11 ?l11 ?c11 ?k11 ?a12 ?l12 ?c12 ?k12 ?a13 ?l13 ?c13 ?k13 ?a14 ?l14 ?c14 ?k14 ?a15 ?l15 ?c15 ?k15 ?a16 ?l16 ?c16 ?k16 ?a17 ?l17 ?c17 ?k17 ?a18 ?l18 ?c18 ?k18 ?a19 ?l19 ?c19 ?k19 ?a20 ?l20 ?c20 ?k20 ?a21 ?i21 ?l21 ?ld21 ?c21 ?k21 ?a22 ?i22 ?l22 ?c22 ?k22 ?a23 ?i23 ?l23 ?c23 ?k23 ?a24 ?i24 ?l24 ?c24 ?k24 ?a25 ?i25 ?l25 ?c25 ?k25 ?a26 ?i26 ?l26 ?c26 ?k26 ?a27 ?l27 ?c27 ?k27 ?a28 ?l28 ?c28 ?k28 ?a29 ?l29 ?c29 ?k29 ?a30 ?l30 ?c30 ?k30 ?a31 ?pa31 ?pb31 ?pc31 ?l31 ?c31 ?k31 ?a32 ?pa32 ?pb32 ?pc32 ?l32 ?c32 ?k32 ?a33 ?l33 ?c33 ?k33 ?a34 ?l34 ?c34 ?k34 ?a35 ?l35 ?c35 ?k35 ?a36 ?l36 ?c36 ?k36 ?a37 ?l37 ?c37 ?k37 ?ca0 ?cb0 ?cc0 ?cd_0 ?ce0 ?ca1 ?cb1 ?cc1 ?cd_1 ?ce1 ?ca2 ?cb2 ?cc2 ?cd_2 ?ce2 ?q3 ?q4 ?q5 ?q6 ?q7 ?q8 ?z46 ?z47 ?z48 ?z49 ?z50 ?z51 ?z52 ?z53 ?z54 ?z55 ?z56 ?z57 ?z58 ?nf9_Editor ?nf10_Editor
    (case cg_Editor => k_is)
    (case cp_Editor => k_is)
    (case ch_Editor => k_is)
    (case co_Editor => k_is)
    (case cs_Editor => k_is)
    (case cm_Editor => k_is)
    (case ck_Editor => k_is)
    (case a0 => k_is)
    (case l0 => k_is)
    (case c0 => k_is)
    (case k0 => k_is)
    (case a1 => k_is)
    (case l1 => k_is)
    (case c1 => k_is)
    (case k1 => k_is)
    (case a2 => k_is)
    (case l2 => k_is)
    (case c2 => k_is)
    (case k2 => k_is)
    (case a3 => k_is)
    (case l3 => k_is)
    (case c3 => k_is)
    (case k3 => k_is)
    (case a4 => k_is)
    (case l4 => k_is)
    (case c4 => k_is)
    (case k4 => k_is)
    (case a5 => k_is)
    (case l5 => k_is)
    (case c5 => k_is)
    (case k5 => k_is)
    (case a6 => k_is)
    (case l6 => k_is)
    (case c6 => k_is)
    (case k6 => k_is)
    (case a7 => k_is)
    (case l7 => k_is)
    (case c7 => k_is)
    (case k7 => k_is)
    (case a8 => k_is)
    (case l8 => k_is)
    (case c8 => k_is)
    (case k8 => k_is)
    (case a9 => k_is)
    (case l9 => k_is)
    (case c9 => k_is)
    (case k9 => k_is)
    (case a10 => k_is)
    (case l10 => k_is)
    (case c10 => k_is)
    (case k10 => k_is)
    (case a11 => k_is)
    (case l11 => k_is)
    (case c11 => k_is)
    (case k11 => k_is)
    (case a12 => k_is)
    (case l12 => k_is)
    (case c12 => k_is)
    (case k12 => k_is)
    (case a13 => k_is)
    (case l13 => k_is)
    (case c13 => k_is)
    (case k13 => k_is)
    (case a14 => k_is)
    (case l14 => k_is)
    (case c14 => k_is)
    (case k14 => k_is)
    (case a15 => k_is)
    (case l15 => k_is)
    (case c15 => k_is)
    (case k15 => k_is)
    (case a16 => k_is)
    (case l16 => k_is)
    (case c16 => k_is)
    (case k16 => k_is)
    (case a17 => k_is)
    (case l17 => k_is)
    (case c17 => k_is)
    (case k17 => k_is)
    (case a18 => k_is)
    (case l18 => k_is)
    (case c18 => k_is)
    (case k18 => k_is)
    (case a19 => k_is)
    (case l19 => k_is)
    (case c19 => k_is)
    (case k19 => k_is)
    (case a20 => k_is)
    (case l20 => k_is)
    (case c20 => k_is)
    (case k20 => k_is)
    (case a21 => k_is)
    (case i21 => k_is)
    (case l21 => k_is)
    (case ld21 => k_is)
    (case c21 => k_is)
    (case k21 => k_is)
    (case a22 => k_is)
    (case i22 => k_is)
    (case l22 => k_is)
    (case c22 => k_is)
    (case k22 => k_is)
    (case a23 => k_is)
    (case i23 => k_is)
    (case l23 => k_is)
    (case c23 => k_is)
    (case k23 => k_is)
    (case a24 => k_is)
    (case i24 => k_is)
    (case l24 => k_is)
    (case c24 => k_is)
    (case k24 => k_is)
    (case a25 => k_is)
    (case i25 => k_is)
    (case l25 => k_is)
    (case c25 => k_is)
    (case k25 => k_is)
    (case a26 => k_is)
    (case i26 => k_is)
    (case l26 => k_is)
    (case c26 => k_is)
    (case k26 => k_is)
    (case a27 => k_is)
    (case l27 => k_is)
    (case c27 => k_is)
    (case k27 => k_is)
    (case a28 => k_is)
    (case l28 => k_is)
    (case c28 => k_is)
    (case k28 => k_is)
    (case a29 => k_is)
    (case l29 => k_is)
    (case c29 => k_is)
    (case k29 => k_is)
    (case a30 => k_is)
    (case l30 => k_is)
    (case c30 => k_is)
    (case k30 => k_is)
    (case a31 => k_is)
    (case pa31 => k_is)
    (case pb31 => k_is)
    (case pc31 => k_is)
    (case l31 => k_is)
    (case c31 => k_is)
    (case k31 => k_is)
    (case a32 => k_is)
    (case pa32 => k_is)
    (case pb32 => k_is)
    (case pc32 => k_is)
    (case l32 => k_is)
    (case c32 => k_is)
    (case k32 => k_is)
    (case a33 => k_is)
    (case l33 => k_is)
    (case c33 => k_is)
    (case k33 => k_is)
    (case a34 => k_is)
    (case l34 => k_is)
    (case c34 => k_is)
    (case k34 => k_is)
    (case a35 => k_is)
    (case l35 => k_is)
    (case c35 => k_is)
    (case k35 => k_is)
    (case a36 => k_is)
    (case l36 => k_is)
    (case c36 => k_is)
    (case k36 => k_is)
    (case a37 => k_is)
    (case l37 => k_is)
    (case c37 => k_is)
    (case k37 => k_is)
    (case ca0 => k_is)
    (case cb0 => k_exc)
    (case cc0 => k_is)
    (case cd_0 => k_is)
    (case ce0 => k_is)
    (case ca1 => k_is)
    (case cb1 => k_exc)
    (case cc1 => k_is)
    (case cd_1 => k_is)
    (case ce1 => k_is)
    (case ca2 => k_is)
    (case cb2 => k_exc)
    (case cc2 => k_is)
    (case cd_2 => k_is)
    (case ce2 => k_is)
    (case q3 => k_is)
    (case q4 => k_is)
    (case q5 => k_is)
    (case q6 => k_is)
    (case q7 => k_is)
    (case q8 => k_is)
    (case z46 => k_is)
    (case z47 => k_is)
    (case z48 => k_is)
    (case z49 => k_is)
    (case z50 => k_is)
    (case z51 => k_is)
    (case z52 => k_is)
    (case z53 => k_is)
    (case z54 => k_is)
    (case z55 => k_is)
    (case z56 => k_is)
    (case z57 => k_is)
    (case z58 => k_is)
    (case nf9_Editor => k_is)
    (case nf10_Editor => k_is)

