import PyProof.Rows.All
import Wide.All
import OpenK.AllK
import Wide.FinOn
import KE.KStateDown
import Lean
import HandS.Base
import HandS.Call
import HandS.Ends
import HandS.More
import HandS.Words
import HandS.WordsExc
import HandS.Codes
import HandS.Defaults
import HandS.Head0
import HandS.Head1
import HandS.Head2
import HandS.HeadEnd
import HandS.HeadHook1
import HandS.HeadHook2
import HandS.CallSlots
import HandS.Comp
import HandS.Conv
import HandS.Deep
import HandS.Dict
import HandS.DictComp
import HandS.DictSubView
import HandS.DictTup
import HandS.ExcField
import HandS.ExcInit
import HandS.ExcOwn
import HandS.ForExc
import HandS.ForMost
import HandS.IsInst
import HandS.Iter
import HandS.List
import HandS.RaiseMore
import HandS.SetFor
import HandS.SortKw
import HandS.Strs
import HandS.Style
import HandS.TupAny
import HandS.TupMul
import HandS.TupSets
import HandS.Walk
import HandS.Wide
import KE.DataCmp
import KE.DataMinMax
import KE.GoesEnum
import KE.GoesZip
import KE.KDictKeyed
import KE.KDictList
import KE.KDictSum
import KE.KDictWalk
import KE.KEqDict
import KE.KTryMore
import KE.KeyNested
import KE.SortData
import KE.SortLaws
import PyProof.DictRoadsH
import PyProof.P3Eq
import PyProof.ReprRoads
import PySem.Challenge.RW_galleyward_k52_what_is_taken
set_option Elab.async false
set_option linter.all false
set_option maxRecDepth 100000
set_option maxHeartbeats 0
set_option exponentiation.threshold 2000
/-! GA: abstract values over the hand layer: data are PyData, a frame owns its cells. -/
namespace G
open PySem PySem.Spec PyProof.Rows L2

/-! ### values, cells, frames, results -/
inductive AV where
  /-- data that nobody writes -/
  | dat (x : PyData)
  /-- a dict that nobody writes -/
  | dct (tp : Bool) (kvs : List (PyData × PyData))
  /-- the frame's own cell -/
  | cel (i : Nat)
  /-- the law's script -/
  | scr (ns : List Int)
  /-- a board: its rooms, its cooks, the cell of what is used -/
  | brd (rooms : List (PyData × PyData)) (cooks : PyData) (i : Nat)
inductive Cell where
  | lst (xs : List PyData)
  | dct (tp : Bool) (kvs : List (PyData × PyData))
  | gone
structure Fr where
  vars : List (Option AV)
  cells : List Cell
  /-- how many cells were handed in -/
  base : Nat
inductive Res (α : Type) where
  | ok (a : α) (f : Fr)
  | exc (c : Str) (fs : List (Str × PyData)) (f : Fr)
  | err

/-! ### how the heap bears them -/
/-- a list of the written part -/
def KL (K : PySem.W.Frag) (a : Addr) (xs : List V) : Prop := SqL K (fun _ => none) a xs
theorem KL.sql {K : PySem.W.Frag} {a : Addr} {xs : List V} (h : KL K a xs) (H : Hp) : SqL K H a xs := by
  rcases h with (h | ⟨_, h⟩) | h
  · cases h
  · cases h
  · exact .inr h
mutual
inductive Rep (K : PySem.W.Frag) (H : Hp) (ok : Addr → Prop) : V → PyData → Prop
  | non : Rep K H ok .non .none
  | bl (b : Bool) : Rep K H ok (.bl b) (.bool b)
  | int (i : Int) : Rep K H ok (.int i) (.int i)
  | str (x : Str) (h : PyData.strOk x = true) : Rep K H ok (.str x) (.str x)
  | lst {a : Addr} {xs : List V} {ds : List PyData} : ok a → H a = some (.lst xs) → ds.length ≤ sizeLine → RepL K H ok xs ds → Rep K H ok (.ref a) (.list ds)
  | tup {a : Addr} {xs : List V} {ds : List PyData} : SqT K H a xs → ds.length ≤ sizeLine → RepL K H ok xs ds → Rep K H ok (.ref a) (.tuple ds)
inductive RepL (K : PySem.W.Frag) (H : Hp) (ok : Addr → Prop) : List V → List PyData → Prop
  | nil : RepL K H ok [] []
  | cons {v : V} {vs : List V} {d : PyData} {ds : List PyData} : Rep K H ok v d → RepL K H ok vs ds → RepL K H ok (v :: vs) (d :: ds)
end

/-- what is kept from a heap to a later one -/
structure Keep (H H' : Hp) (ok ok' : Addr → Prop) : Prop where
  l : ∀ a o, ok a → H a = some o → ok' a ∧ H' a = some o
  t : ∀ a xs, Rd H a (.tup xs) → Rd H' a (.tup xs)
theorem Keep.refl {H : Hp} {ok : Addr → Prop} : Keep H H ok ok := ⟨fun _ _ h e => ⟨h, e⟩, fun _ _ h => h⟩
theorem Keep.rdl {H H' : Hp} {ok ok' : Addr → Prop} (k : Keep H H' ok ok') {a : Addr} {xs : List V} (h : ok a) (r : Rd H a (.lst xs)) : ok' a ∧ Rd H' a (.lst xs) := by
  rcases r with r | ⟨o, r⟩
  · exact ⟨(k.l a _ h r).1, .inl (k.l a _ h r).2⟩
  · exact ⟨(k.l a _ h r).1, .inr ⟨o, (k.l a _ h r).2⟩⟩
theorem Keep.sqt {K : PySem.W.Frag} {H H' : Hp} {ok ok' : Addr → Prop} (k : Keep H H' ok ok') {a : Addr} {xs : List V} (r : SqT K H a xs) : SqT K H' a xs := by
  rcases r with r | r
  · exact .inl (k.t a xs r)
  · exact .inr r
mutual
theorem Rep.keep {K : PySem.W.Frag} {H H' : Hp} {ok ok' : Addr → Prop} (k : Keep H H' ok ok') : ∀ {v : V} {x : PyData}, Rep K H ok v x → Rep K H' ok' v x
  | _, _, .non => .non
  | _, _, .bl b => .bl b
  | _, _, .int i => .int i
  | _, _, .str x h => .str x h
  | _, _, .lst o r l rs => .lst (k.l _ _ o r).1 (k.l _ _ o r).2 l (RepL.keep k rs)
  | _, _, .tup r l rs => .tup (k.sqt r) l (RepL.keep k rs)
theorem RepL.keep {K : PySem.W.Frag} {H H' : Hp} {ok ok' : Addr → Prop} (k : Keep H H' ok ok') : ∀ {vs : List V} {xs : List PyData}, RepL K H ok vs xs → RepL K H' ok' vs xs
  | _, _, .nil => .nil
  | _, _, .cons r rs => .cons (Rep.keep k r) (RepL.keep k rs)
end
theorem RepL.length {K : PySem.W.Frag} {H : Hp} {ok : Addr → Prop} : ∀ {vs : List V} {xs : List PyData}, RepL K H ok vs xs → vs.length = xs.length
  | _, _, .nil => rfl
  | _, _, .cons _ rs => by rw [List.length_cons, List.length_cons, RepL.length rs]
theorem RepL.get {K : PySem.W.Frag} {H : Hp} {ok : Addr → Prop} : ∀ {vs : List V} {xs : List PyData} {i : Nat} {x : PyData}, RepL K H ok vs xs → xs[i]? = some x → ∃ v, vs[i]? = some v ∧ Rep K H ok v x
  | _, _, _, _, .nil, e => by simp at e
  | _, _, 0, _, .cons r _, e => by simp at e; subst e; exact ⟨_, rfl, r⟩
  | _, _, i + 1, x, .cons _ rs, e => by
    obtain ⟨v, h1, h2⟩ := RepL.get (i := i) (x := x) rs (by simpa using e)
    exact ⟨v, by simpa using h1, h2⟩
theorem RepL.getV {K : PySem.W.Frag} {H : Hp} {ok : Addr → Prop} : ∀ {vs : List V} {xs : List PyData} {i : Nat} {v : V}, RepL K H ok vs xs → vs[i]? = some v → ∃ x, xs[i]? = some x ∧ Rep K H ok v x
  | _, _, _, _, .nil, e => by simp at e
  | _, _, 0, _, .cons r _, e => by simp at e; subst e; exact ⟨_, rfl, r⟩
  | _, _, i + 1, v, .cons _ rs, e => by
    obtain ⟨x, h1, h2⟩ := RepL.getV (i := i) (v := v) rs (by simpa using e)
    exact ⟨x, by simpa using h1, h2⟩
theorem RepL.append {K : PySem.W.Frag} {H : Hp} {ok : Addr → Prop} : ∀ {vs ws : List V} {xs ys : List PyData}, RepL K H ok vs xs → RepL K H ok ws ys → RepL K H ok (vs ++ ws) (xs ++ ys)
  | _, _, _, _, .nil, s => s
  | _, _, _, _, .cons r rs, s => .cons r (RepL.append rs s)
theorem RepL.take {K : PySem.W.Frag} {H : Hp} {ok : Addr → Prop} : ∀ {vs : List V} {xs : List PyData} (n : Nat), RepL K H ok vs xs → RepL K H ok (vs.take n) (xs.take n)
  | _, _, 0, _ => .nil
  | _, _, _ + 1, .nil => .nil
  | _, _, n + 1, .cons r rs => .cons r (RepL.take n rs)
theorem RepL.drop {K : PySem.W.Frag} {H : Hp} {ok : Addr → Prop} : ∀ {vs : List V} {xs : List PyData} (n : Nat), RepL K H ok vs xs → RepL K H ok (vs.drop n) (xs.drop n)
  | _, _, 0, r => r
  | _, _, _ + 1, .nil => .nil
  | _, _, n + 1, .cons _ rs => RepL.drop n rs
theorem RepL.set {K : PySem.W.Frag} {H : Hp} {ok : Addr → Prop} {v : V} {x : PyData} (r : Rep K H ok v x) : ∀ {vs : List V} {xs : List PyData} (i : Nat), RepL K H ok vs xs → RepL K H ok (vs.set i v) (xs.set i x)
  | _, _, _, .nil => .nil
  | _, _, 0, .cons _ t => .cons r t
  | _, _, i + 1, .cons q t => .cons q (RepL.set r i t)
theorem RepL.ints {K : PySem.W.Frag} {H : Hp} {ok : Addr → Prop} : ∀ ns : List Int, RepL K H ok (ns.map V.int) (ns.map PyData.int)
  | [] => .nil
  | _ :: ns => .cons (.int _) (RepL.ints ns)
theorem RepL.reverse {K : PySem.W.Frag} {H : Hp} {ok : Addr → Prop} : ∀ {vs : List V} {xs : List PyData}, RepL K H ok vs xs → RepL K H ok vs.reverse xs.reverse
  | _, _, .nil => .nil
  | _, _, .cons r rs => by
    rw [List.reverse_cons, List.reverse_cons]
    exact RepL.append (RepL.reverse rs) (.cons r .nil)
theorem RepL.rep {K : PySem.W.Frag} {H : Hp} {ok : Addr → Prop} {vs : List V} {xs : List PyData} (h : RepL K H ok vs xs) : ∀ k : Nat, RepL K H ok (List.replicate k vs).flatten (List.replicate k xs).flatten
  | 0 => .nil
  | k + 1 => by
    rw [List.replicate_succ, List.replicate_succ, List.flatten_cons, List.flatten_cons]
    exact RepL.append h (RepL.rep h k)

/-- to be read: data, or a list whose items are data -/
def RepB (K : PySem.W.Frag) (H : Hp) (ok : Addr → Prop) (v : V) (x : PyData) : Prop :=
  Rep K H ok v x ∨ ∃ a xs ds, v = .ref a ∧ x = .list ds ∧ SqL K H a xs ∧ ds.length ≤ sizeLine ∧ RepL K H ok xs ds
theorem Rep.b {K : PySem.W.Frag} {H : Hp} {ok : Addr → Prop} {v : V} {x : PyData} (r : Rep K H ok v x) : RepB K H ok v x := .inl r
/-- a list that is read -/
theorem RepB.list {K : PySem.W.Frag} {H : Hp} {ok : Addr → Prop} {v : V} {ds : List PyData} (r : RepB K H ok v (.list ds)) : ∃ a xs, v = .ref a ∧ SqL K H a xs ∧ ds.length ≤ sizeLine ∧ RepL K H ok xs ds := by
  rcases r with r | ⟨a, xs, ds', rfl, e, h1, h2, h3⟩
  · cases r with
    | lst o r l rs => exact ⟨_, _, rfl, SqL.of r, l, rs⟩
  · injection e with e
    subst e
    exact ⟨a, xs, rfl, h1, h2, h3⟩
theorem RepB.tuple {K : PySem.W.Frag} {H : Hp} {ok : Addr → Prop} {v : V} {ds : List PyData} (r : RepB K H ok v (.tuple ds)) : ∃ a xs, v = .ref a ∧ SqT K H a xs ∧ ds.length ≤ sizeLine ∧ RepL K H ok xs ds := by
  rcases r with r | ⟨a, xs, ds', _, e, _⟩
  · cases r with
    | tup r l rs => exact ⟨_, _, rfl, r, l, rs⟩
  · cases e
theorem RepB.int {K : PySem.W.Frag} {H : Hp} {ok : Addr → Prop} {v : V} {i : Int} (r : RepB K H ok v (.int i)) : v = .int i := by
  rcases r with r | ⟨_, _, _, _, e, _⟩
  · cases r; rfl
  · cases e
theorem RepB.bool {K : PySem.W.Frag} {H : Hp} {ok : Addr → Prop} {v : V} {i : Bool} (r : RepB K H ok v (.bool i)) : v = .bl i := by
  rcases r with r | ⟨_, _, _, _, e, _⟩
  · cases r; rfl
  · cases e
theorem RepB.str {K : PySem.W.Frag} {H : Hp} {ok : Addr → Prop} {v : V} {i : Str} (r : RepB K H ok v (.str i)) : v = .str i ∧ PyData.strOk i = true := by
  rcases r with r | ⟨_, _, _, _, e, _⟩
  · cases r with
    | str _ h => exact ⟨rfl, h⟩
  · cases e
theorem RepB.none {K : PySem.W.Frag} {H : Hp} {ok : Addr → Prop} {v : V} (r : RepB K H ok v .none) : v = .non := by
  rcases r with r | ⟨_, _, _, _, e, _⟩
  · cases r; rfl
  · cases e

mutual
theorem Rep.dp {K : PySem.W.Frag} {H : Hp} {ok : Addr → Prop} : ∀ {v : V} {x : PyData}, Rep K H ok v x → Dp K H v x
  | _, _, .non => .non
  | _, _, .bl b => .bl b
  | _, _, .int i => .int i
  | _, _, .str x _ => .str x
  | _, _, .lst _ r _ rs => .lst (SqL.of r) (RepL.dp rs)
  | _, _, .tup r _ rs => .tup r (RepL.dp rs)
theorem RepL.dp {K : PySem.W.Frag} {H : Hp} {ok : Addr → Prop} : ∀ {vs : List V} {xs : List PyData}, RepL K H ok vs xs → DpAll K H vs xs
  | _, _, .nil => .nil
  | _, _, .cons r rs => .cons (Rep.dp r) (RepL.dp rs)
end
theorem RepB.dp {K : PySem.W.Frag} {H : Hp} {ok : Addr → Prop} {v : V} {x : PyData} (r : RepB K H ok v x) : Dp K H v x := by
  rcases r with r | ⟨a, xs, ds, rfl, rfl, h1, _, h2⟩
  · exact r.dp
  · exact .lst h1 h2.dp
mutual
theorem Rep.lay {K : PySem.W.Frag} {H : Hp} {ok : Addr → Prop} : ∀ {v : V} {x : PyData}, Rep K H ok v x → x.canLay0 = true
  | _, _, .non => rfl
  | _, _, .bl b => rfl
  | _, _, .int i => rfl
  | _, _, .str x h => h
  | _, _, .lst _ _ _ rs => RepL.lay rs
  | _, _, .tup _ _ rs => RepL.lay rs
theorem RepL.lay {K : PySem.W.Frag} {H : Hp} {ok : Addr → Prop} : ∀ {vs : List V} {xs : List PyData}, RepL K H ok vs xs → PyData.canLayAll0 xs = true
  | _, _, .nil => rfl
  | _, _, .cons r rs => by
    show (PyData.canLay0 _ && PyData.canLayAll0 _) = true
    rw [Rep.lay r, RepL.lay rs]; rfl
end
theorem RepB.lay {K : PySem.W.Frag} {H : Hp} {ok : Addr → Prop} {v : V} {x : PyData} (r : RepB K H ok v x) : x.canLay0 = true := by
  rcases r with r | ⟨a, xs, ds, rfl, rfl, h1, _, h2⟩
  · exact r.lay
  · exact h2.lay

/-! ### a heap that has only grown -/
def Grow (H H' : Hp) : Prop := ∀ b o, H b = some o → H' b = some o
theorem Grow.refl {H : Hp} : Grow H H := fun _ _ e => e
theorem Grow.new {H : Hp} {p : Addr} {o : HO} (n : H p = none) : Grow H (upd H p o) := fun b u e => by rw [upd_ne (ne_of_none e n)]; exact e
theorem Grow.keep {H H' : Hp} {ok : Addr → Prop} (g : Grow H H') : Keep H H' ok ok where
  l := fun a o h e => ⟨h, g a o e⟩
  t := fun a xs r => by
    rcases r with r | ⟨o, r⟩
    · exact .inl (g a _ r)
    · exact .inr ⟨o, g a _ r⟩
end G
/-! GB: frames over the hand layer, what a frame's function says of an expression. -/
namespace G
open PySem PySem.Spec PyProof.Rows L2

structure Par where
  P : Program
  w : World
  K : PySem.W.Frag
/-- what a body began with: the heap, the old lists that it may hold, the cells that it was handed -/
structure Ent where
  He : Hp
  S : Addr → Prop
  W0 : List Addr
  /-- what a loop walks -/
  gh : List (V × AV) := []
  /-- lists that a comprehension is filling -/
  prot : List Addr := []

/-! ### dicts -/
def keyD : Key → PyData
  | .inl i => .int i
  | .inr x => .str x
def keyS : Key → Prop
  | .inl _ => True
  | .inr x => PyData.strOk x = true
mutual
def nkD : NestedKey → PyData
  | .none => .none
  | .num i => .int i
  | .text x => .str x
  | .tup ks => .tuple (nkDs ks)
def nkDs : List NestedKey → List PyData
  | [] => []
  | k :: ks => nkD k :: nkDs ks
end
/-- the dict object at a, whole -/
def dTh (a : Addr) (es : Array DictEntry) (ep : Nat) : HO := .ext fun h => ∃ o, h.get? a = some o ∧ o.ExactDict ∧ o.data = .dict es ep
def DctAt (p : Par) (H : Hp) (ok : Addr → Prop) (a : Addr) : Bool → List (PyData × PyData) → Prop
  | false, kvs => ∃ ks : List (Key × V), H a = some (.dK ks) ∧ Paired (fun (x : Key × V) (q : PyData × PyData) => q.1 = keyD x.1 ∧ keyS x.1 ∧ Rep p.K H ok x.2 q.2) ks kvs
  | true, kvs => ∃ (es : Array DictEntry) (ep : Nat) (xs : List (NestedKey × Addr × Value)), H a = some (dTh a es ep) ∧ es.toList = xs.map (entryOfKey (nestedKind p.P p.w)) ∧ (xs.map (·.1)).Nodup ∧ (a == sysModules) = false ∧ kvs.length ≤ sizeLine ∧
      Paired (fun (x : NestedKey × Addr × Value) (q : PyData × PyData) => q.1 = nkD x.1 ∧ x.1.depth ≤ 8 ∧ Rep p.K H ok (.ref x.2.1) q.1 ∧ ∃ v, RelV v x.2.2 ∧ Rep p.K H ok v q.2) xs kvs
theorem DctAt.keep {p : Par} {H H' : Hp} {ok ok' : Addr → Prop} {a : Addr} (k : Keep H H' ok ok') (ha : ∀ o, H a = some o → H' a = some o) : ∀ {tp : Bool} {kvs : List (PyData × PyData)}, DctAt p H ok a tp kvs → DctAt p H' ok' a tp kvs
  | false, _, ⟨ks, e, r⟩ => ⟨ks, ha _ e, Paired.mapP r fun _ _ ⟨h1, h2, h3⟩ => ⟨h1, h2, h3.keep k⟩⟩
  | true, _, ⟨es, ep, xs, e, h1, h2, h3, h4, r⟩ => ⟨es, ep, xs, ha _ e, h1, h2, h3, h4, Paired.mapP r fun _ _ ⟨q1, q2, q3, v, q4, q5⟩ => ⟨q1, q2, q3.keep k, v, q4, q5.keep k⟩⟩
theorem DctAt.there {p : Par} {H : Hp} {ok : Addr → Prop} {a : Addr} : ∀ {tp : Bool} {kvs : List (PyData × PyData)}, DctAt p H ok a tp kvs → ∃ o, H a = some o ∧ ∀ xs, ¬ Rd H a (.tup xs)
  | false, _, ⟨ks, e, _⟩ => ⟨_, e, fun xs r => by rcases r with r | ⟨_, r⟩ <;> (rw [e] at r; cases r)⟩
  | true, _, ⟨es, ep, xs, e, _⟩ => ⟨_, e, fun xs r => by
      rcases r with r | ⟨_, r⟩
      · rw [e] at r
        have r' : dTh a es ep = HO.tup xs := Option.some.inj r
        cases r'
      · rename_i o
        rw [e] at r
        have r' : dTh a es ep = HO.frz o (.tup xs) := Option.some.inj r
        cases r'⟩

/-- .. or locked, while it is walked -/
def DctR (p : Par) (H : Hp) (ok : Addr → Prop) (a : Addr) (tp : Bool) (kvs : List (PyData × PyData)) : Prop :=
  DctAt p H ok a tp kvs ∨ (tp = false ∧ ∃ (o : Obj) (ks : List (Key × V)), H a = some (.frz o (.dK ks)) ∧ Paired (fun (x : Key × V) (q : PyData × PyData) => q.1 = keyD x.1 ∧ keyS x.1 ∧ Rep p.K H ok x.2 q.2) ks kvs)
theorem DctAt.r {p : Par} {H : Hp} {ok : Addr → Prop} {a : Addr} {tp : Bool} {kvs : List (PyData × PyData)} (d : DctAt p H ok a tp kvs) : DctR p H ok a tp kvs := .inl d
theorem DctR.rd {p : Par} {H : Hp} {ok : Addr → Prop} {a : Addr} {kvs : List (PyData × PyData)} (d : DctR p H ok a false kvs) : ∃ ks : List (Key × V), Rd H a (.dK ks) ∧ Paired (fun (x : Key × V) (q : PyData × PyData) => q.1 = keyD x.1 ∧ keyS x.1 ∧ Rep p.K H ok x.2 q.2) ks kvs := by
  rcases d with ⟨ks, e, r⟩ | ⟨_, o, ks, e, r⟩
  · exact ⟨ks, .inl e, r⟩
  · exact ⟨ks, .inr ⟨o, e⟩, r⟩
theorem DctR.tt {p : Par} {H : Hp} {ok : Addr → Prop} {a : Addr} {kvs : List (PyData × PyData)} (d : DctR p H ok a true kvs) : DctAt p H ok a true kvs := by
  rcases d with d | ⟨h, _⟩
  · exact d
  · cases h
theorem DctR.keep {p : Par} {H H' : Hp} {ok ok' : Addr → Prop} {a : Addr} (k : Keep H H' ok ok') (ha : ∀ o, H a = some o → H' a = some o) {tp : Bool} {kvs : List (PyData × PyData)} (d : DctR p H ok a tp kvs) : DctR p H' ok' a tp kvs := by
  rcases d with d | ⟨h, o, ks, e, r⟩
  · exact .inl (d.keep k ha)
  · exact .inr ⟨h, o, ks, ha _ e, Paired.mapP r fun _ _ ⟨h1, h2, h3⟩ => ⟨h1, h2, h3.keep k⟩⟩
theorem DctR.there {p : Par} {H : Hp} {ok : Addr → Prop} {a : Addr} {tp : Bool} {kvs : List (PyData × PyData)} (d : DctR p H ok a tp kvs) : ∃ o, H a = some o ∧ ∀ xs, ¬ Rd H a (.tup xs) := by
  rcases d with d | ⟨_, o, ks, e, _⟩
  · exact d.there
  · exact ⟨_, e, fun xs r => by rcases r with r | ⟨_, r⟩ <;> (rw [e] at r; cases r)⟩

/-! ### values and cells -/
/-- the board at a -/
def BrdAt (p : Par) (H : Hp) (ok : Addr → Prop) (a u : Addr) (rooms : List (PyData × PyData)) (cooks : PyData) : Prop := ∃ (d r : Addr) (vc : V), H a = some (.ins (He.ga p.K "Board") d [("rooms", .ref r), ("cooks", vc), ("used", .ref u)]) ∧ ok r ∧ DctR p H ok r false rooms ∧ Rep p.K H ok vc cooks
theorem BrdAt.keep {p : Par} {H H' : Hp} {ok ok' : Addr → Prop} {a u : Addr} {rooms : List (PyData × PyData)} {cooks : PyData} (k : Keep H H' ok ok') (ha : ∀ o, H a = some o → H' a = some o) (d : BrdAt p H ok a u rooms cooks) : BrdAt p H' ok' a u rooms cooks := by
  obtain ⟨dx, r, vc, e, h1, h2, h3⟩ := d
  obtain ⟨o, e2, _⟩ := h2.there
  exact ⟨dx, r, vc, ha _ e, (k.l _ _ h1 e2).1, h2.keep k fun o z => (k.l _ _ h1 z).2, h3.keep k⟩
theorem BrdAt.there {p : Par} {H : Hp} {ok : Addr → Prop} {a u : Addr} {rooms : List (PyData × PyData)} {cooks : PyData} (d : BrdAt p H ok a u rooms cooks) : ∃ o, H a = some o := by
  obtain ⟨dx, r, vc, e, _⟩ := d
  exact ⟨_, e⟩
def RepA (p : Par) (H : Hp) (ok : Addr → Prop) (ad : List (Option Addr)) (v : V) : AV → Prop
  | .dat x => Rep p.K H ok v x
  | .dct tp kvs => ∃ a, v = .ref a ∧ ok a ∧ DctR p H ok a tp kvs
  | .cel i => ∃ a : Addr, v = .ref a ∧ ad[i]? = some (some a)
  | .scr ns => ns.length ≤ sizeLine ∧ ∃ a, v = .ref a ∧ ((∃ o, H a = some (.frz o (.lst (ns.map V.int)))) ∨ KL p.K a (ns.map V.int))
  | .brd rooms cooks i => ∃ a u : Addr, v = .ref a ∧ ok a ∧ BrdAt p H ok a u rooms cooks ∧ ad[i]? = some (some u)
def CellAt (p : Par) (H : Hp) (ok : Addr → Prop) (a : Addr) : Cell → Prop
  | .lst ds => ∃ xs, H a = some (.lst xs) ∧ ds.length ≤ sizeLine ∧ RepL p.K H ok xs ds
  | .dct tp kvs => DctAt p H ok a tp kvs
  | .gone => False
def isDat : AV → Bool
  | .dat _ => true
  | .dct _ _ => true
  | _ => false
def okP (c : Ent) (ad : List (Option Addr)) (a : Addr) : Prop := ((c.He a = none ∨ c.S a) ∧ a ∉ c.prot) ∧ some a ∉ ad

structure FR (p : Par) (c : Ent) (fr : Fr) (ad : List (Option Addr)) (σ : L2.St) (H : Hp) : Prop where
  len : fr.vars.length = σ.length
  var : ∀ (i : Nat) (av : AV), fr.vars[i]? = some (some av) → ∃ v, σ[i]? = some (some v) ∧ RepA p H (okP c ad) ad v av
  clen : fr.cells.length = ad.length
  cel : ∀ (i : Nat) (a : Addr), ad[i]? = some (some a) → ∃ cl, fr.cells[i]? = some cl ∧ CellAt p H (okP c ad) a cl
  nd : ∀ (i j : Nat) (a : Addr), ad[i]? = some (some a) → ad[j]? = some (some a) → i = j
  old : ∀ b o, c.He b = some o → b ∉ c.W0 → H b = some o
  sub : ∀ (i : Nat) (a : Addr), c.W0[i]? = some a → ad[i]? = some (some a)
  adw : ∀ a, some a ∈ ad → a ∈ c.W0 ∨ c.He a = none
  gh : ∀ q ∈ c.gh, isDat q.2 = true ∧ RepA p H (okP c ad) ad q.1 q.2
  pr : ∀ a ∈ c.prot, some a ∉ ad ∧ ∃ vs, H a = some vs
  bs : fr.base = c.W0.length

/-- an expression has gone: what is not a cell stands, cells stand by their places, new ones are new -/
structure Mv (H : Hp) (ad : List (Option Addr)) (H' : Hp) (ad' : List (Option Addr)) : Prop where
  keep : ∀ b o, H b = some o → some b ∉ ad → H' b = some o
  pre : ∀ (i : Nat) (x : Option Addr), ad[i]? = some x → ad'[i]? = some x
  new : ∀ a, some a ∈ ad' → some a ∈ ad ∨ H a = none
  there : ∀ b, H b ≠ none → H' b ≠ none

section
variable {p : Par} {c : Ent} {fr fr' : Fr} {ad ad' ad2 : List (Option Addr)} {σ : L2.St} {H H' H2 : Hp}
theorem Mv.refl : Mv H ad H ad := ⟨fun _ _ e _ => e, fun _ _ e => e, fun _ h => .inl h, fun _ h => h⟩
theorem Mv.grow (g : Grow H H') : Mv H ad H' ad := ⟨fun b o e _ => g b o e, fun _ _ e => e, fun _ h => .inl h, fun b h => by
  cases q : H b with
  | none => exact absurd q h
  | some o => rw [g b o q]; simp⟩
theorem mem_at {α : Type} {l : List α} {x : α} (h : x ∈ l) : ∃ i : Nat, l[i]? = some x := by
  obtain ⟨i, hi, e⟩ := List.getElem_of_mem h
  exact ⟨i, by rw [List.getElem?_eq_getElem hi, e]⟩
theorem Mv.sub (m : Mv H ad H' ad') {a : Addr} (h : some a ∈ ad) : some a ∈ ad' := by
  obtain ⟨i, e⟩ := mem_at h
  exact List.mem_of_getElem? (m.pre i _ e)
theorem FR.track (F : FR p c fr ad σ H) {a : Addr} (h : some a ∈ ad) : ∃ o, H a = some o ∧ ∀ xs, ¬ Rd H a (.tup xs) := by
  obtain ⟨i, e⟩ := mem_at h
  obtain ⟨cl, _, q⟩ := F.cel i a e
  cases cl with
  | lst ds =>
    obtain ⟨xs, e2, _⟩ := q
    exact ⟨_, e2, fun ys r => by rcases r with r | ⟨_, r⟩ <;> (rw [e2] at r; cases r)⟩
  | dct tp kvs => exact DctAt.there q
  | gone => exact q.elim
theorem Mv.trans (F : FR p c fr ad σ H) (m : Mv H ad H' ad') (m2 : Mv H' ad' H2 ad2) : Mv H ad H2 ad2 where
  keep := fun b o e n => m2.keep b o (m.keep b o e n) fun h => by
    rcases m.new b h with q | q
    · exact n q
    · rw [e] at q; cases q
  pre := fun i x e => m2.pre i x (m.pre i x e)
  new := fun a h => by
    rcases m2.new a h with q | q
    · exact m.new a q
    · refine .inr ?_
      cases z : H a with
      | none => rfl
      | some o => exact absurd q (m.there a (by rw [z]; simp))
  there := fun b h => m2.there b (m.there b h)
theorem okP_new (F : FR p c fr ad σ H) {a : Addr} (n : H a = none) : okP c ad a := by
  refine ⟨⟨.inl ?_, fun h => by obtain ⟨_, vs, e⟩ := F.pr a h; rw [n] at e; cases e⟩, fun h => ?_⟩
  · cases q : c.He a with
    | none => rfl
    | some o =>
      by_cases hw : a ∈ c.W0
      · obtain ⟨i, e⟩ := mem_at hw
        obtain ⟨o', e', _⟩ := F.track (List.mem_of_getElem? (F.sub i a e))
        rw [n] at e'; cases e'
      · have := F.old a o q hw
        rw [n] at this; cases this
  · obtain ⟨o', e', _⟩ := F.track h
    rw [n] at e'; cases e'
/-- what data lean on is kept over a move -/
theorem Mv.kp (F : FR p c fr ad σ H) (m : Mv H ad H' ad') : Keep H H' (okP c ad) (okP c ad') where
  l := fun a o h e => ⟨⟨h.1, fun q => by
    rcases m.new a q with z | z
    · exact h.2 z
    · rw [e] at z; cases z⟩, m.keep a o e h.2⟩
  t := fun a xs r => by
    have n : some a ∉ ad := fun h => by
      obtain ⟨o, e, z⟩ := F.track h
      exact z xs r
    rcases r with r | ⟨o, r⟩
    · exact .inl (m.keep a _ r n)
    · exact .inr ⟨o, m.keep a _ r n⟩
theorem RepA.mv (F : FR p c fr ad σ H) (m : Mv H ad H' ad') {v : V} : ∀ {av : AV}, RepA p H (okP c ad) ad v av → RepA p H' (okP c ad') ad' v av
  | .dat x, r => Rep.keep (m.kp F) r
  | .dct tp kvs, ⟨a, e, h, d⟩ => ⟨a, e, by
      obtain ⟨o, q, _⟩ := d.there
      exact ((m.kp F).l a o h q).1, d.keep (m.kp F) fun o q => m.keep a o q h.2⟩
  | .cel i, ⟨a, e, q⟩ => ⟨a, e, m.pre i _ q⟩
  | .scr ns, ⟨hl, a, e, q⟩ => ⟨hl, a, e, by
      rcases q with ⟨o, q⟩ | q
      · refine .inl ⟨o, m.keep a _ q fun h => ?_⟩
        obtain ⟨i, e2⟩ := mem_at h
        obtain ⟨cl, _, z⟩ := F.cel i a e2
        cases cl with
        | lst ds =>
          obtain ⟨xs, e3, _⟩ := z
          rw [q] at e3; cases e3
        | dct tp kvs =>
          cases tp with
          | false =>
            obtain ⟨ks, e3, _⟩ := z
            rw [q] at e3; cases e3
          | true =>
            obtain ⟨es, ep, xs, e3, _⟩ := z
            rw [q] at e3
            have r' : HO.frz o (.lst (ns.map V.int)) = dTh a es ep := Option.some.inj e3
            cases r'
        | gone => exact z.elim
      · exact .inr q⟩
  | .brd rooms cooks i, ⟨a, u, e, h, d, q⟩ => ⟨a, u, e, by
      obtain ⟨o, q2⟩ := d.there
      exact ((m.kp F).l a o h q2).1, d.keep (m.kp F) fun o q => m.keep a o q h.2, m.pre i _ q⟩
theorem Mv.prs (F : FR p c fr ad σ H) (m : Mv H ad H' ad') : ∀ a ∈ c.prot, some a ∉ ad' ∧ ∃ vs, H' a = some vs := fun a ha => by
  obtain ⟨n, vs, e⟩ := F.pr a ha
  refine ⟨fun h => ?_, vs, m.keep a _ e n⟩
  rcases m.new a h with z | z
  · exact n z
  · rw [e] at z; cases z
/-- only grown: the frame stands -/
theorem FR.grow (F : FR p c fr ad σ H) (g : Grow H H') : FR p c fr ad σ H' where
  len := F.len
  var := fun i av e => by
    obtain ⟨v, h1, h2⟩ := F.var i av e
    exact ⟨v, h1, RepA.mv F (Mv.grow g) h2⟩
  clen := F.clen
  cel := fun i a e => by
    obtain ⟨cl, h1, h2⟩ := F.cel i a e
    refine ⟨cl, h1, ?_⟩
    cases cl with
    | lst ds =>
      obtain ⟨xs, h3, hz, h4⟩ := h2
      exact ⟨xs, g _ _ h3, hz, h4.keep (Mv.kp F (Mv.grow g))⟩
    | dct tp kvs => exact DctAt.keep (Mv.kp F (Mv.grow g)) (fun o q => g _ _ q) h2
    | gone => exact h2
  nd := F.nd
  old := fun b o e n => g _ _ (F.old b o e n)
  sub := F.sub
  adw := F.adw
  gh := fun q hq => ⟨(F.gh q hq).1, RepA.mv F (Mv.grow g) (F.gh q hq).2⟩
  pr := fun a ha => ⟨(F.pr a ha).1, by obtain ⟨vs, e⟩ := (F.pr a ha).2; exact ⟨vs, g _ _ e⟩⟩
  bs := F.bs
end

/-! ### results -/
/-- an exception of the class c (its address cA) with the fields fs; set by the layer above -/
structure XW where
  /-- the wish -/
  W : WX
  /-- where the classes stand, how the fields lie -/
  C : Str → List (Str × PyData) → Hp → Value → Option Addr → Prop
def Out {α : Type} (p : Par) (x : XW) (c : Ent) (ad : List (Option Addr)) (σ : L2.St) (H : Hp) (r : Res α) (k : α → Fr → List (Option Addr) → Hp → Prop) : Prop :=
  match r with
  | .ok a fr' => ∀ ad' H', FR p c fr' ad' σ H' → Mv H ad H' ad' → k a fr' ad' H'
  | .exc cl fs fr' => ∀ ad' H' C d, FR p c fr' ad' σ H' → Mv H ad H' ad' → x.C cl fs H' C d → x.W C d σ H'
  | .err => False
@[simp] def Res.bind {α β : Type} (r : Res α) (g : α → Fr → Res β) : Res β := match r with
  | .ok a f => g a f
  | .exc c fs f => .exc c fs f
  | .err => .err
section
variable {α β : Type} {p : Par} {x : XW} {c : Ent} {ad : List (Option Addr)} {σ : L2.St} {H : Hp} {r : Res α} {g : α → Fr → Res β} {k : β → Fr → List (Option Addr) → Hp → Prop} {k1 k2 : α → Fr → List (Option Addr) → Hp → Prop}
theorem Out.mono (o : Out p x c ad σ H r k1) (h : ∀ a fr' ad' H', FR p c fr' ad' σ H' → Mv H ad H' ad' → k1 a fr' ad' H' → k2 a fr' ad' H') : Out p x c ad σ H r k2 := by
  cases r with
  | ok a fr' => exact fun ad' H' F m => h _ _ _ _ F m (o ad' H' F m)
  | exc cl fs fr' => exact o
  | err => exact o
theorem Out.bind {fr : Fr} (F : FR p c fr ad σ H) (o : Out p x c ad σ H (r.bind g) k) : Out p x c ad σ H r fun a fr' ad' H' => Out p x c ad' σ H' (g a fr') k := by
  cases r with
  | ok a fr' =>
    intro ad' H' F' m
    have o' : Out p x c ad σ H (g a fr') k := o
    cases q : g a fr' with
    | ok b fr2 => rw [q] at o'; exact fun ad2 H2 F2 m2 => o' ad2 H2 F2 (m.trans F m2)
    | exc cl fs fr2 => rw [q] at o'; exact fun ad2 H2 C d F2 m2 h => o' ad2 H2 C d F2 (m.trans F m2) h
    | err => rw [q] at o'; exact o'
  | exc cl fs fr' => exact o
  | err => exact o
end
/-- an expression's reading: the frame's function f -/
def tE (p : Par) (x : XW) (f : Fr → Res AV) : TE := fun σ H Q => ∃ c fr ad, FR p c fr ad σ H ∧ Out p x c ad σ H (f fr) fun a _ ad' H' => ∀ v, RepA p H' (okP c ad') ad' v a → Q v H'
/-- a list of arguments -/
def RepAs (p : Par) (H : Hp) (ok : Addr → Prop) (ad : List (Option Addr)) : List V → List AV → Prop := Paired fun v a => RepA p H ok ad v a
def tA (p : Par) (x : XW) (f : Fr → Res (List AV)) : TA := fun σ H Q => ∃ c fr ad, FR p c fr ad σ H ∧ Out p x c ad σ H (f fr) fun a _ ad' H' => ∀ v, RepAs p H' (okP c ad') ad' v a → Q v H'
/-- a test -/
def tT (p : Par) (x : XW) (f : Fr → Res Bool) : TT := fun σ H Q => ∃ c fr ad, FR p c fr ad σ H ∧ Out p x c ad σ H (f fr) fun a _ _ H' => Q a H'
abbrev pX (X : Cx) : Par := ⟨X.prog, X.w, X.K⟩
abbrev AE (X : Cx) (x : XW) (e : Expr) (f : Fr → Res AV) : Prop := PE X e (tE (pX X) x f)
abbrev AA (X : Cx) (x : XW) (es : List Expr) (f : Fr → Res (List AV)) : Prop := PA X es (tA (pX X) x f)
abbrev AT (X : Cx) (x : XW) (e : Expr) (f : Fr → Res Bool) : Prop := PT X e (tT (pX X) x f)
abbrev AW (X : Cx) (x : XW) (e : Expr) (f : Fr → Res Bool) : Prop := PW X e (tT (pX X) x f)
theorem _root_.L2.PE.imp {X : Cx} {e : Expr} {t t' : TE} (h : PE X e t) (hi : ∀ σ H Q, t' σ H Q → t σ H Q) : PE X e t' := ⟨fun pins s σ H Q I q => h.run pins s σ H Q I (hi σ H Q q)⟩
theorem _root_.L2.PA.imp {X : Cx} {e : List Expr} {t t' : TA} (h : PA X e t) (hi : ∀ σ H Q, t' σ H Q → t σ H Q) : PA X e t' := ⟨fun pos pins s σ H Q I q => h.run pos pins s σ H Q I (hi σ H Q q)⟩
theorem _root_.L2.PT.imp {X : Cx} {e : Expr} {t t' : TT} (h : PT X e t) (hi : ∀ σ H Q, t' σ H Q → t σ H Q) : PT X e t' := ⟨fun pins s σ H Q I q => h.run pins s σ H Q I (hi σ H Q q)⟩
theorem _root_.L2.PW.imp {X : Cx} {e : Expr} {t t' : TT} (h : PW X e t) (hi : ∀ σ H Q, t' σ H Q → t σ H Q) : PW X e t' := ⟨fun wh pins s σ H Q I q => h.run wh pins s σ H Q I (hi σ H Q q)⟩
theorem _root_.L2.PS.imp {X : Cx} {e : Stmt} {t t' : TS} (h : PS X e t) (hi : ∀ D σ H, t' D σ H → t D σ H) : PS X e t' := ⟨fun pins s σ H D I q => h.run pins s σ H D I (hi D σ H q)⟩
theorem _root_.L2.PSs.imp {X : Cx} {e : List Stmt} {t t' : TS} (h : PSs X e t) (hi : ∀ D σ H, t' D σ H → t D σ H) : PSs X e t' := ⟨fun pins s σ H D I q => h.run pins s σ H D I (hi D σ H q)⟩
end G
/-! GC: expressions. -/
namespace G
open PySem PySem.Spec PyProof.Rows L2

/-! ### what is to be read of a value -/
@[simp] def Fr.view (fr : Fr) : AV → Option PyData
  | .dat x => some x
  | .scr ns => some (.list (ns.map PyData.int))
  | .cel i => match fr.cells[i]? with
    | some (.lst xs) => some (.list xs)
    | _ => none
  | .dct _ _ => none
  | .brd _ _ _ => none
section
variable {p : Par} {c : Ent} {fr fr' : Fr} {ad ad' : List (Option Addr)} {σ : L2.St} {H H' : Hp}
theorem view_rep (F : FR p c fr ad σ H) {v : V} {a : AV} {x : PyData} (r : RepA p H (okP c ad) ad v a) (e : fr.view a = some x) : RepB p.K H (okP c ad) v x := by
  cases a with
  | dat y => cases e; exact .inl r
  | dct tp kvs => cases e
  | brd _ _ _ => cases e
  | scr ns =>
    cases e
    obtain ⟨hl, a, rfl, q⟩ := r
    refine .inr ⟨a, ns.map V.int, _, rfl, rfl, ?_, by simpa using hl, RepL.ints ns⟩
    rcases q with ⟨o, q⟩ | q
    · exact .inl (.inr ⟨o, q⟩)
    · exact q.sql H
  | cel i =>
    obtain ⟨a, rfl, q⟩ := r
    obtain ⟨cl, h1, h2⟩ := F.cel i a q
    unfold Fr.view at e
    simp only [h1] at e
    cases cl with
    | lst xs =>
      cases e
      obtain ⟨vs, h3, hz, h4⟩ := h2
      exact .inr ⟨a, vs, _, rfl, rfl, SqL.of h3, hz, h4⟩
    | dct tp kvs => cases e
    | gone => cases e
end

/-! ### combinators of expressions -/
@[simp] def xVar (i : Nat) : Fr → Res AV := fun fr => match fr.vars[i]? with
  | some (some a) => .ok a fr
  | _ => .err
@[simp] def xC (x : PyData) : Fr → Res AV := fun fr => .ok (.dat x) fr
/-- of what is read of a value -/
def rd (fr : Fr) (a : AV) (k : PyData → Fr → Res AV) : Res AV := match fr.view a with
  | some x => k x fr
  | none => .err
@[simp] def ofO (fr : Fr) (o : Option PyData) : Res AV := match o with
  | some r => .ok (.dat r) fr
  | none => .err
@[simp] def xOp2 (sem : PyData → PyData → Option PyData) (f g : Fr → Res AV) : Fr → Res AV := fun fr => (f fr).bind fun a fr1 => (g fr1).bind fun b fr2 => match fr2.view a, fr2.view b with
  | some x, some y => ofO fr2 (sem x y)
  | _, _ => .err
@[simp] def xOp1 (sem : PyData → Option PyData) (f : Fr → Res AV) : Fr → Res AV := fun fr => (f fr).bind fun a fr1 => match fr1.view a with
  | some x => ofO fr1 (sem x)
  | none => .err
@[simp] def xNil : Fr → Res (List AV) := fun fr => .ok [] fr
@[simp] def xCons (f : Fr → Res AV) (g : Fr → Res (List AV)) : Fr → Res (List AV) := fun fr => (f fr).bind fun a fr1 => (g fr1).bind fun as fr2 => .ok (a :: as) fr2
@[simp] def views (fr : Fr) : List AV → Option (List PyData)
  | [] => some []
  | a :: as => match fr.view a, views fr as with
    | some x, some xs => some (x :: xs)
    | _, _ => none
/-- data alone -/
@[simp] def dats : List AV → Option (List PyData)
  | [] => some []
  | .dat x :: as => match dats as with
    | some xs => some (x :: xs)
    | none => none
  | _ :: _ => none
@[simp] def xTup (g : Fr → Res (List AV)) : Fr → Res AV := fun fr => (g fr).bind fun as fr1 => match dats as with
  | some xs => .ok (.dat (.tuple xs)) fr1
  | none => .err
@[simp] def xLst (g : Fr → Res (List AV)) : Fr → Res AV := fun fr => (g fr).bind fun as fr1 => match dats as with
  | some xs => .ok (.dat (.list xs)) fr1
  | none => .err
/-- a test by a value -/
@[simp] def xB (f : Fr → Res AV) : Fr → Res Bool := fun fr => (f fr).bind fun a fr1 => match a with
  | .dat (.bool b) => .ok b fr1
  | _ => .err
@[simp] def xV (f : Fr → Res Bool) : Fr → Res AV := fun fr => (f fr).bind fun b fr1 => .ok (.dat (.bool b)) fr1
@[simp] def xAnd (f g : Fr → Res Bool) : Fr → Res Bool := fun fr => (f fr).bind fun b fr1 => if b = true then g fr1 else .ok false fr1
@[simp] def xOr (f g : Fr → Res Bool) : Fr → Res Bool := fun fr => (f fr).bind fun b fr1 => if b = true then .ok true fr1 else g fr1
@[simp] def xNot (f : Fr → Res Bool) : Fr → Res Bool := fun fr => (f fr).bind fun b fr1 => .ok (!b) fr1
@[simp] def xIf (t : Fr → Res Bool) (f g : Fr → Res AV) : Fr → Res AV := fun fr => (t fr).bind fun b fr1 => if b = true then f fr1 else g fr1

/-! ### operators by values -/
def rOp2 (K : PySem.W.Frag) (sem : PyData → PyData → Option PyData) : R2 := fun x y H Q => ∃ (ok : Addr → Prop) (dx dy r : PyData), (∀ p, H p = none → ok p) ∧ RepB K H ok x dx ∧ RepB K H ok y dy ∧ sem dx dy = some r ∧ ∀ v H', Grow H H' → Rep K H' ok v r → Q v H'
def rOp1 (K : PySem.W.Frag) (sem : PyData → Option PyData) : V → Hp → VK → Prop := fun x H Q => ∃ (ok : Addr → Prop) (dx r : PyData), (∀ p, H p = none → ok p) ∧ RepB K H ok x dx ∧ sem dx = some r ∧ ∀ v H', Grow H H' → Rep K H' ok v r → Q v H'
inductive RepBs (K : PySem.W.Frag) (H : Hp) (ok : Addr → Prop) : List V → List PyData → Prop
  | nil : RepBs K H ok [] []
  | cons {v : V} {vs : List V} {d : PyData} {ds : List PyData} : RepB K H ok v d → RepBs K H ok vs ds → RepBs K H ok (v :: vs) (d :: ds)
def rCall (K : PySem.W.Frag) (sem : List PyData → Option PyData) : List V → Hp → VK → Prop := fun xs H Q => ∃ (ok : Addr → Prop) (ds : List PyData) (r : PyData), (∀ p, H p = none → ok p) ∧ RepBs K H ok xs ds ∧ sem ds = some r ∧ ∀ v H', Grow H H' → Rep K H' ok v r → Q v H'

section
variable {X : Cx} {x : XW} {a b d : Expr} {f g h : Fr → Res AV} {pos : Pos}

theorem ae_var {i : Nat} {n : Str} (hN : X.N[i]? = some n) (hv : Vis X.env.scope n) (hd : (n == ("__debug__" : Str)) = false := by decide) (hcd : (n == ("__classdict__" : Str)) = false := by decide) : AE X x (.Name n pos) (xVar i) := by
  refine (pe_var hN hv hd hcd).imp fun σ H Q ⟨c, fr, ad, F, o⟩ => ?_
  unfold xVar at o
  cases q : fr.vars[i]? with
  | none => rw [q] at o; exact o.elim
  | some w =>
    rw [q] at o
    cases w with
    | none => exact o.elim
    | some av =>
      obtain ⟨v, h1, h2⟩ := F.var i av q
      exact ⟨v, h1, o ad H F Mv.refl v h2⟩
theorem ae_int {i : Int} {j : Nat} : AE X x (.Constant (.int i) j pos) (xC (.int i)) :=
  pe_int.imp fun σ H Q ⟨c, fr, ad, F, o⟩ => o ad H F Mv.refl _ (.int i)
theorem ae_bl {i : Bool} {j : Nat} : AE X x (.Constant (.bool i) j pos) (xC (.bool i)) :=
  pe_bl.imp fun σ H Q ⟨c, fr, ad, F, o⟩ => o ad H F Mv.refl _ (.bl i)
theorem ae_non {j : Nat} : AE X x (.Constant .none j pos) (xC .none) :=
  pe_non.imp fun σ H Q ⟨c, fr, ad, F, o⟩ => o ad H F Mv.refl _ .non
theorem ae_str {i : Str} {j : Nat} (h : PyData.strOk i = true := by decide +kernel) : AE X x (.Constant (.str i) j pos) (xC (.str i)) :=
  pe_str.imp fun σ H Q ⟨c, fr, ad, F, o⟩ => o ad H F Mv.refl _ (.str i h)
/-- a constant of the module -/
theorem ae_gint {n : Str} {i : Int} {t : Tok} (hg : Gl X n) (hm : X.mg n = some (.int i t)) (hd : (n == ("__debug__" : Str)) = false := by decide) : AE X x (.Name n pos) (xC (.int i)) :=
  (pe_glob (v := .int i) hg hm ⟨t, rfl⟩ hd).imp fun σ H Q ⟨c, fr, ad, F, o⟩ => o ad H F Mv.refl _ (.int i)
theorem ae_gstr {n i : Str} {t : Tok} (hg : Gl X n) (hm : X.mg n = some (.str i t)) (h : PyData.strOk i = true := by decide +kernel) (hd : (n == ("__debug__" : Str)) = false := by decide) : AE X x (.Name n pos) (xC (.str i)) :=
  (pe_glob (v := .str i) hg hm ⟨t, rfl⟩ hd).imp fun σ H Q ⟨c, fr, ad, F, o⟩ => o ad H F Mv.refl _ (.str i h)

/-- two parts in a row, then an operator -/
theorem tE_op2 {sem : PyData → PyData → Option PyData} {σ : L2.St} {H : Hp} {Q : VK} (h : tE (pX X) x (xOp2 sem f g) σ H Q) : tOp (rOp2 X.K sem) (tE (pX X) x f) (tE (pX X) x g) σ H Q := by
  obtain ⟨c, fr, ad, F, o⟩ := h
  refine ⟨c, fr, ad, F, (Out.bind F o).mono fun av fr1 ad1 H1 F1 m1 o1 v rv => ?_⟩
  refine ⟨c, fr1, ad1, F1, (Out.bind F1 o1).mono fun bv fr2 ad2 H2 F2 m2 o2 u ru => ?_⟩
  have rv2 := RepA.mv F1 m2 rv
  cases q1 : fr2.view av with
  | none => rw [q1] at o2; exact o2.elim
  | some dx =>
    cases q2 : fr2.view bv with
    | none => rw [q1, q2] at o2; exact o2.elim
    | some dy =>
      rw [q1, q2] at o2
      simp only [ofO] at o2
      cases q3 : sem dx dy with
      | none => rw [q3] at o2; exact o2.elim
      | some r =>
        rw [q3] at o2
        exact ⟨okP c ad2, dx, dy, r, fun p hp => okP_new F2 hp, view_rep F2 rv2 q1, view_rep F2 ru q2, q3, fun w H3 gr rw => o2 ad2 H3 (F2.grow gr) (Mv.grow gr) w rw⟩
theorem ae_bin {op : Operator} {sem : PyData → PyData → Option PyData} (ho : OpR X (binaryOp op) (rOp2 X.K sem)) (ha : AE X x a f) (hb : AE X x b g) : AE X x (.BinOp a op b pos) (xOp2 sem f g) :=
  (pe_op ho ha hb).imp fun _ _ _ h => tE_op2 h
theorem ae_cmp {op : CmpOp} {sem : PyData → PyData → Option PyData} (ho : OpR X (compareOp op) (rOp2 X.K sem)) (ha : AE X x a f) (hb : AE X x b g) (hm : behindInMarks op b = false) : AE X x (.Compare a [op] [b] pos) (xOp2 sem f g) :=
  (pe_cmpR ho ha hb hm).imp fun _ _ _ h => tE_op2 h
theorem tE_op1 {sem : PyData → Option PyData} {σ : L2.St} {H : Hp} {Q : VK} (h : tE (pX X) x (xOp1 sem f) σ H Q) : tE (pX X) x f σ H fun v H1 => rOp1 X.K sem v H1 Q := by
  obtain ⟨c, fr, ad, F, o⟩ := h
  refine ⟨c, fr, ad, F, (Out.bind F o).mono fun av fr1 ad1 H1 F1 m1 o1 v rv => ?_⟩
  cases q1 : fr1.view av with
  | none => rw [q1] at o1; exact o1.elim
  | some dx =>
    rw [q1] at o1
    simp only [ofO] at o1
    cases q3 : sem dx with
    | none => rw [q3] at o1; exact o1.elim
    | some r =>
      rw [q3] at o1
      exact ⟨okP c ad1, dx, r, fun p hp => okP_new F1 hp, view_rep F1 rv q1, q3, fun w H3 gr rw => o1 ad1 H3 (F1.grow gr) (Mv.grow gr) w rw⟩
theorem ae_un {op : UnaryOp} {sem : PyData → Option PyData} (ho : UnR X (unaryOp op) (rOp1 X.K sem)) (ha : AE X x a f) : AE X x (.UnaryOp op a pos) (xOp1 sem f) :=
  (pe_un ho ha).imp fun _ _ _ h => tE_op1 h

/-! ### tests -/
theorem tT_tB {f : Fr → Res AV} {σ : L2.St} {H : Hp} {Q : Bool → Hp → Prop} (h : tT (pX X) x (xB f) σ H Q) : tB (tE (pX X) x f) σ H Q := by
  obtain ⟨c, fr, ad, F, o⟩ := h
  refine ⟨c, fr, ad, F, (Out.bind F o).mono fun av fr1 ad1 H1 F1 m1 o1 v rv => ?_⟩
  cases av with
  | dat y =>
    cases y with
    | bool k =>
      have e : v = .bl k := RepB.bool (.inl rv)
      subst e
      exact ⟨k, rfl, o1 ad1 H1 F1 Mv.refl⟩
    | _ => exact o1.elim
  | _ => exact o1.elim
theorem at_val (ha : AE X x a f) (he : ∀ whole, isTrue a X.env whole = (do let v ← whole; standAt a.pos; holding [v] (truthy v)) := by intro _; rfl) : AT X x a (xB f) :=
  (pt_val ha he).imp fun _ _ _ h => tT_tB h
theorem at_cmp {op : CmpOp} {sem : PyData → PyData → Option PyData} (ho : OpR X (compareOp op) (rOp2 X.K sem)) (ha : AE X x a f) (hb : AE X x b g) (hm : behindInMarks op b = false) : AT X x (.Compare a [op] [b] pos) (xB (xOp2 sem f g)) := by
  refine (pt_cmpR ho ha hb hm).imp fun σ H Q h => ?_
  have h1 := tT_tB h
  exact tE_op2 h1
theorem at_not {t : Fr → Res Bool} (ha : AT X x a t) : AT X x (.UnaryOp .Not a pos) (xNot t) :=
  (pt_not ha).imp fun σ H Q ⟨c, fr, ad, F, o⟩ => ⟨c, fr, ad, F, (Out.bind F o).mono fun b fr1 ad1 H1 F1 m1 o1 => o1 ad1 H1 F1 Mv.refl⟩
theorem aw_and1 {t : Fr → Res Bool} (ha : AT X x a t) : AW X x (.BoolOp .And [a] pos) t := pw_and1 ha
theorem aw_or1 {t : Fr → Res Bool} (ha : AT X x a t) : AW X x (.BoolOp .Or [a] pos) t := pw_or1 ha
theorem aw_and {t u : Fr → Res Bool} {rest : List Expr} (ha : AT X x a t) (hb : AW X x (.BoolOp .And (b :: rest) pos) u) : AW X x (.BoolOp .And (a :: b :: rest) pos) (xAnd t u) := by
  refine (pw_and ha hb).imp fun σ H Q ⟨c, fr, ad, F, o⟩ => ⟨c, fr, ad, F, (Out.bind F o).mono fun k fr1 ad1 H1 F1 m1 o1 => ?_⟩
  cases k with
  | true => exact ⟨c, fr1, ad1, F1, o1⟩
  | false => exact o1 ad1 H1 F1 Mv.refl
theorem aw_or {t u : Fr → Res Bool} {rest : List Expr} (ha : AT X x a t) (hb : AW X x (.BoolOp .Or (b :: rest) pos) u) : AW X x (.BoolOp .Or (a :: b :: rest) pos) (xOr t u) := by
  refine (pw_or ha hb).imp fun σ H Q ⟨c, fr, ad, F, o⟩ => ⟨c, fr, ad, F, (Out.bind F o).mono fun k fr1 ad1 H1 F1 m1 o1 => ?_⟩
  cases k with
  | false => exact ⟨c, fr1, ad1, F1, o1⟩
  | true => exact o1 ad1 H1 F1 Mv.refl
theorem at_w {t : Fr → Res Bool} (h : AW X x a t) : AT X x a t := PW.pt h
/-- and, or, not as values (of truths) -/
theorem ae_one {op : BoolOp} {t : Fr → Res Bool} (ha : AE X x a (xV t)) : AE X x (.BoolOp op [a] pos) (xV t) := pe_one ha
theorem ae_and {t u : Fr → Res Bool} {rest : List Expr} (ha : AE X x a (xV t)) (hb : AE X x (.BoolOp .And (b :: rest) pos) (xV u)) : AE X x (.BoolOp .And (a :: b :: rest) pos) (xV (xAnd t u)) := by
  refine (pe_and ha hb).imp fun σ H Q ⟨c, fr, ad, F, o⟩ => ⟨c, fr, ad, F, ?_⟩
  have o2 : Out (pX X) x c ad σ H (xV (xAnd t u) fr) _ := o
  unfold xV xAnd at o2
  have o3 := Out.bind F o2
  have o4 := Out.bind F o3
  show Out (pX X) x c ad σ H ((t fr).bind _) _
  cases q : t fr with
  | ok k fr1 =>
    rw [q] at o4
    intro ad1 H1 F1 m1 v rv
    have o5 := o4 ad1 H1 F1 m1
    have e : v = .bl k := RepB.bool (.inl rv)
    subst e
    refine ⟨k, rfl, ?_⟩
    cases k with
    | true => exact ⟨c, fr1, ad1, F1, by
        unfold xV
        cases q2 : u fr1 with
        | ok k2 fr2 =>
          rw [if_pos rfl, q2] at o5
          intro ad2 H2 F2 m2 w rw
          exact o5 ad2 H2 F2 m2 ad2 H2 F2 Mv.refl w rw
        | exc cl fs fr2 => rw [if_pos rfl, q2] at o5; exact o5
        | err => rw [if_pos rfl, q2] at o5; exact o5⟩
    | false => exact o5 ad1 H1 F1 Mv.refl ad1 H1 F1 Mv.refl _ (.bl false)
  | exc cl fs fr1 => rw [q] at o4; exact o4
  | err => rw [q] at o4; exact o4
theorem ae_or {t u : Fr → Res Bool} {rest : List Expr} (ha : AE X x a (xV t)) (hb : AE X x (.BoolOp .Or (b :: rest) pos) (xV u)) : AE X x (.BoolOp .Or (a :: b :: rest) pos) (xV (xOr t u)) := by
  refine (pe_or ha hb).imp fun σ H Q ⟨c, fr, ad, F, o⟩ => ⟨c, fr, ad, F, ?_⟩
  have o2 : Out (pX X) x c ad σ H (xV (xOr t u) fr) _ := o
  unfold xV xOr at o2
  have o4 := Out.bind F (Out.bind F o2)
  show Out (pX X) x c ad σ H ((t fr).bind _) _
  cases q : t fr with
  | ok k fr1 =>
    rw [q] at o4
    intro ad1 H1 F1 m1 v rv
    have o5 := o4 ad1 H1 F1 m1
    have e : v = .bl k := RepB.bool (.inl rv)
    subst e
    refine ⟨k, rfl, ?_⟩
    cases k with
    | false => exact ⟨c, fr1, ad1, F1, by
        unfold xV
        cases q2 : u fr1 with
        | ok k2 fr2 =>
          rw [if_neg (by decide), q2] at o5
          intro ad2 H2 F2 m2 w rw
          exact o5 ad2 H2 F2 m2 ad2 H2 F2 Mv.refl w rw
        | exc cl fs fr2 => rw [if_neg (by decide), q2] at o5; exact o5
        | err => rw [if_neg (by decide), q2] at o5; exact o5⟩
    | true => exact o5 ad1 H1 F1 Mv.refl ad1 H1 F1 Mv.refl _ (.bl true)
  | exc cl fs fr1 => rw [q] at o4; exact o4
  | err => rw [q] at o4; exact o4
/-- a value that is a truth, by its test's function -/
theorem ae_tv (ha : AE X x a f) : AE X x a (xV (xB f)) := by
  refine L2.PE.imp ha fun σ H Q ⟨c, fr, ad, F, o⟩ => ⟨c, fr, ad, F, ?_⟩
  unfold xV xB at o
  refine (Out.bind F (Out.bind F o)).mono fun av fr1 ad1 H1 F1 m1 o1 v rv => ?_
  cases av with
  | dat y =>
    cases y with
    | bool k => exact o1 ad1 H1 F1 Mv.refl ad1 H1 F1 Mv.refl v rv
    | _ => exact o1.elim
  | _ => exact o1.elim
theorem ae_not {t : Fr → Res Bool} (ha : AE X x a (xV t)) : AE X x (.UnaryOp .Not a pos) (xV (xNot t)) := by
  refine (pe_not ha).imp fun σ H Q ⟨c, fr, ad, F, o⟩ => ⟨c, fr, ad, F, ?_⟩
  unfold xV xNot at o
  have o4 := Out.bind F (Out.bind F o)
  show Out (pX X) x c ad σ H ((t fr).bind _) _
  cases q : t fr with
  | ok k fr1 =>
    rw [q] at o4
    intro ad1 H1 F1 m1 v rv
    have e : v = .bl k := RepB.bool (.inl rv)
    subst e
    exact ⟨k, rfl, o4 ad1 H1 F1 m1 ad1 H1 F1 Mv.refl ad1 H1 F1 Mv.refl _ (.bl _)⟩
  | exc cl fs fr1 => rw [q] at o4; exact o4
  | err => rw [q] at o4; exact o4
theorem ae_if {t : Fr → Res Bool} (hc : AT X x d t) (ha : AE X x a f) (hb : AE X x b g) : AE X x (.IfExp d a b pos) (xIf t f g) := by
  refine (pe_ifExp hc ha hb).imp fun σ H Q ⟨c, fr, ad, F, o⟩ => ⟨c, fr, ad, F, (Out.bind F o).mono fun k fr1 ad1 H1 F1 m1 o1 => ?_⟩
  cases k with
  | true => exact ⟨c, fr1, ad1, F1, o1⟩
  | false => exact ⟨c, fr1, ad1, F1, o1⟩

/-! ### argument lists, displays -/
theorem aa_nil : AA X x [] xNil := pa_nil.imp fun σ H Q ⟨c, fr, ad, F, o⟩ => o ad H F Mv.refl [] .nil
theorem aa_cons {es : List Expr} {gs : Fr → Res (List AV)} (ha : AE X x a f) (hr : AA X x es gs) (hs : starEach (a :: es) X.env = (false, eval a X.env) :: starEach es X.env := by rfl) : AA X x (a :: es) (xCons f gs) := by
  refine (pa_cons ha hr hs).imp fun σ H Q ⟨c, fr, ad, F, o⟩ => ⟨c, fr, ad, F, (Out.bind F o).mono fun av fr1 ad1 H1 F1 m1 o1 v rv => ?_⟩
  exact ⟨c, fr1, ad1, F1, (Out.bind F1 o1).mono fun as fr2 ad2 H2 F2 m2 o2 vs rvs => o2 ad2 H2 F2 Mv.refl _ (.cons (RepA.mv F1 m2 rv) rvs)⟩
theorem dats_rep {p : Par} {H : Hp} {ok : Addr → Prop} {ad : List (Option Addr)} : ∀ {vs : List V} {as : List AV} {xs : List PyData}, RepAs p H ok ad vs as → dats as = some xs → RepL p.K H ok vs xs
  | _, _, _, .nil, e => by cases e; exact .nil
  | _, .dat y :: as, _, .cons r rs, e => by
    unfold dats at e
    cases q : dats as with
    | none => rw [q] at e; cases e
    | some ys => rw [q] at e; cases e; exact .cons r (dats_rep rs q)
  | _, .dct _ _ :: as, _, .cons r rs, e => by cases e
  | _, .cel _ :: as, _, .cons r rs, e => by cases e
  | _, .scr _ :: as, _, .cons r rs, e => by cases e
  | _, .brd _ _ _ :: as, _, .cons r rs, e => by cases e
theorem ae_tup {es : List Expr} {k : Nat} {gs : Fr → Res (List AV)} (h : AA X x es gs) (hl : es.length ≤ 1000 := by decide) (hn : ∀ fr as fr', gs fr = .ok as fr' → as.length = es.length) : AE X x (.Tuple es k pos) (xTup gs) := by
  refine (pe_tup h).imp fun σ H Q ⟨c, fr, ad, F, o⟩ => ⟨c, fr, ad, F, ?_⟩
  have o4 := Out.bind F o
  cases q : gs fr with
  | ok as fr1 =>
    rw [q] at o4
    intro ad1 H1 F1 m1 vs rvs
    have o5 := o4 ad1 H1 F1 m1
    have hlen := hn fr as fr1 q
    cases q2 : dats as with
    | none => simp only [q2] at o5; exact o5.elim
    | some xs =>
      simp only [q2] at o5
      have rl := dats_rep rvs q2
      have e1 : vs.length = as.length := Paired.length rvs
      have e2 := rl.length
      have z : vs.length ≤ sizeLine := by rw [sizeLine_eq]; omega
      refine ⟨z, fun p hp => ?_⟩
      have gr : Grow H1 (upd H1 p (.tup vs)) := Grow.new hp
      exact o5 ad1 _ (F1.grow gr) (Mv.grow gr) _ (.tup (SqT.of upd_same) (by rw [← e2]; exact z) (rl.keep gr.keep))
  | exc cl fs fr1 => rw [q] at o4; exact o4
  | err => rw [q] at o4; exact o4
theorem ae_lst {es : List Expr} {gs : Fr → Res (List AV)} (h : AA X x es gs) (hl : es.length ≤ 1000 := by decide) (hn : ∀ fr as fr', gs fr = .ok as fr' → as.length = es.length) : AE X x (.List es pos) (xLst gs) := by
  refine (pe_lst h).imp fun σ H Q ⟨c, fr, ad, F, o⟩ => ⟨c, fr, ad, F, ?_⟩
  have o4 := Out.bind F o
  cases q : gs fr with
  | ok as fr1 =>
    rw [q] at o4
    intro ad1 H1 F1 m1 vs rvs
    have o5 := o4 ad1 H1 F1 m1
    have hlen := hn fr as fr1 q
    cases q2 : dats as with
    | none => simp only [q2] at o5; exact o5.elim
    | some xs =>
      simp only [q2] at o5
      have rl := dats_rep rvs q2
      have e1 : vs.length = as.length := Paired.length rvs
      have e2 := rl.length
      have z : vs.length ≤ sizeLine := by rw [sizeLine_eq]; omega
      refine ⟨z, fun p hp => ?_⟩
      have gr : Grow H1 (upd H1 p (.lst vs)) := Grow.new hp
      exact o5 ad1 _ (F1.grow gr) (Mv.grow gr) _ (.lst (okP_new F1 hp) upd_same (by rw [← e2]; exact z) (rl.keep gr.keep))
  | exc cl fs fr1 => rw [q] at o4; exact o4
  | err => rw [q] at o4; exact o4
theorem n_nil : ∀ fr as fr', xNil fr = .ok as fr' → as.length = ([] : List Expr).length := fun fr as fr' h => by cases h; rfl
theorem n_cons {es : List Expr} {gs : Fr → Res (List AV)} (h : ∀ fr as fr', gs fr = .ok as fr' → as.length = es.length) : ∀ fr as fr', xCons f gs fr = .ok as fr' → as.length = (a :: es).length := fun fr as fr' e => by
  unfold xCons at e
  cases q : f fr with
  | ok av fr1 =>
    rw [q] at e
    have e' : (gs fr1).bind (fun as fr2 => Res.ok (av :: as) fr2) = .ok as fr' := e
    cases q2 : gs fr1 with
    | ok bs fr2 =>
      rw [q2] at e'
      have e2 : Res.ok (av :: bs) fr2 = Res.ok as fr' := e'
      injection e2 with e3 _
      subst e3
      simp [h _ _ _ q2]
    | exc cl fs fr2 => rw [q2] at e'; cases e'
    | err => rw [q2] at e'; cases e'
  | exc cl fs fr1 => rw [q] at e; cases e
  | err => rw [q] at e; cases e
end
end G
/-! GD: operators, comparisons, subscripts on data. -/
namespace G
open PySem PySem.Spec PyProof.Rows L2

/-! ### what they do -/
abbrev CMulP (i j : Int) : Prop := i.natAbs.log2 + j.natAbs.log2 < 1000000
abbrev CDivP (j : Int) : Prop := 0 < j ∧ j.natAbs.log2 < 9000
abbrev CPowP (i j : Int) : Prop := 0 ≤ j ∧ j ≤ 1000000 ∧ i.natAbs < 2 ^ 64
def mulOk (i j : Int) : Bool := decide (CMulP i j)
def divOk (j : Int) : Bool := decide (CDivP j)
def powOk (i j : Int) : Bool := decide (CPowP i j)
def dAdd : PyData → PyData → Option PyData
  | .int i, .int j => some (.int (i + j))
  | .str a, .str b => if a.length + b.length ≤ 1000000 then some (.str (a ++ b)) else none
  | .list a, .list b => if a.length + b.length ≤ 1000000 then some (.list (a ++ b)) else none
  | .tuple a, .tuple b => if a.length + b.length ≤ 1000000 then some (.tuple (a ++ b)) else none
  | _, _ => none
def dSub : PyData → PyData → Option PyData
  | .int i, .int j => some (.int (i - j))
  | _, _ => none
def dMul : PyData → PyData → Option PyData
  | .int i, .int j => if mulOk i j = true then some (.int (i * j)) else none
  | _, _ => none
def dFdiv : PyData → PyData → Option PyData
  | .int i, .int j => if divOk j = true then some (.int (i / j)) else none
  | _, _ => none
def dMod : PyData → PyData → Option PyData
  | .int i, .int j => if 0 < j then some (.int (i % j)) else none
  | _, _ => none
def dPow : PyData → PyData → Option PyData
  | .int i, .int j => if powOk i j = true then some (.int (i ^ j.toNat)) else none
  | _, _ => none
def dNeg : PyData → Option PyData
  | .int i => some (.int (-i))
  | _ => none
def eqOk (x y : PyData) : Bool := decide (min x.depth y.depth ≤ 64)
def dEq (x y : PyData) : Option PyData := if eqOk x y = true then some (.bool (PyData.eqv x y)) else none
def dNe (x y : PyData) : Option PyData := if eqOk x y = true then some (.bool (!PyData.eqv x y)) else none
/-- two tuples that can be compared -/
def cmpOk (x y : PyData) : Bool := PySem.W.alike x y && decide (min x.depth y.depth ≤ 32)
def dLt : PyData → PyData → Option PyData
  | .int i, .int j => some (.bool (decide (i < j)))
  | .str a, .str b => some (.bool (decide (a.cps.toList < b.cps.toList)))
  | .tuple a, .tuple b => if cmpOk (.tuple a) (.tuple b) = true then some (.bool (PySem.W.dataLt (.tuple a) (.tuple b))) else none
  | _, _ => none
def dLe : PyData → PyData → Option PyData
  | .int i, .int j => some (.bool (decide (i ≤ j)))
  | .str a, .str b => some (.bool (!decide (b.cps.toList < a.cps.toList)))
  | .tuple a, .tuple b => if cmpOk (.tuple a) (.tuple b) = true then some (.bool (!PySem.W.dataLt (.tuple b) (.tuple a))) else none
  | _, _ => none
def dGt : PyData → PyData → Option PyData
  | .int i, .int j => some (.bool (decide (j < i)))
  | _, _ => none
def dGe : PyData → PyData → Option PyData
  | .int i, .int j => some (.bool (decide (j ≤ i)))
  | _, _ => none
def isNonB : PyData → Bool
  | .none => true
  | _ => false
def dIsN : PyData → PyData → Option PyData
  | x, .none => some (.bool (isNonB x))
  | _, _ => none
def dNotN : PyData → PyData → Option PyData
  | x, .none => some (.bool (!isNonB x))
  | _, _ => none
/-- x in a list, a tuple -/
def inOk (x : PyData) (ds : List PyData) : Bool := decide (min (PyData.depthAll ds) x.depth ≤ 64)
def dIn : PyData → PyData → Option PyData
  | x, .list ds => if inOk x ds = true then some (.bool (ds.any fun z => PyData.eqv z x)) else none
  | x, .tuple ds => if inOk x ds = true then some (.bool (ds.any fun z => PyData.eqv z x)) else none
  | _, _ => none
def dNotIn : PyData → PyData → Option PyData
  | x, .list ds => if inOk x ds = true then some (.bool (!ds.any fun z => PyData.eqv z x)) else none
  | x, .tuple ds => if inOk x ds = true then some (.bool (!ds.any fun z => PyData.eqv z x)) else none
  | _, _ => none
def dIx : PyData → PyData → Option PyData
  | .list ds, .int i => atI ds i
  | .tuple ds, .int i => atI ds i
  | _, _ => none
/-- a slice with its bounds -/
def cutD (xs : List PyData) (lo hi : Option Int) : List PyData := (xs.drop (HT.sIx xs.length 0 lo)).take (HT.sIx xs.length xs.length hi - HT.sIx xs.length 0 lo)
def dSl (x : PyData) (lo hi : Option Int) : Option PyData := match x with
  | .list ds => some (.list (cutD ds lo hi))
  | .tuple ds => some (.tuple (cutD ds lo hi))
  | .str z => if z.length ≤ 1000000 then some (.str (cutS z lo hi)) else none
  | _ => none
@[simp] def dLen : List PyData → Option PyData
  | [.list ds] => some (.int ds.length)
  | [.tuple ds] => some (.int ds.length)
  | [.str z] => if z.length ≤ 1000000 then some (.int z.length) else none
  | _ => none
@[simp] def dAbs : List PyData → Option PyData
  | [.int i] => some (.int (if i < 0 then -i else i))
  | _ => none
def dMin2 : List PyData → Option PyData
  | [.int i, .int j] => some (.int (if j < i then j else i))
  | _ => none
def dMax2 : List PyData → Option PyData
  | [.int i, .int j] => some (.int (if j > i then j else i))
  | _ => none
@[simp] def dList : List PyData → Option PyData
  | [.list ds] => some (.list ds)
  | [.tuple ds] => some (.list ds)
  | _ => none
@[simp] def dTuple : List PyData → Option PyData
  | [.list ds] => some (.tuple ds)
  | [.tuple ds] => some (.tuple ds)
  | _ => none

/-! ### they are sound -/
section
variable {X : Cx}
theorem strOk_append {a b : Str} (h1 : PyData.strOk a = true) (h2 : PyData.strOk b = true) : PyData.strOk (a ++ b) = true := by
  unfold PyData.strOk at *
  show (a.cps ++ b.cps).all _ = true
  rw [Array.all_append, h1, h2]; rfl
theorem sz6 {n : Nat} (h : n ≤ 1000000) : n ≤ sizeLine := by rw [sizeLine_eq]; omega
theorem lists_cat {pins : List (Addr × Obj)} {σ : L2.St} {H : Hp} {s : Shared} {a b : Addr} {xs ys : List V} {Q : VK} (I : Inv X pins σ H s) (ha : SqL X.K H a xs) (hb : SqL X.K H b ys) (hz : xs.length + ys.length ≤ sizeLine)
    (q : ∀ p, H p = none → Q (.ref p) (upd H p (.lst (xs ++ ys)))) : wpAny (model X.prog X.w) X.A (binaryOp .Add (.ref a) (.ref b)) (EP X pins σ Q) X.xe s := by
  obtain ⟨its, r1, p1, _⟩ := I.list ha
  obtain ⟨its2, r2, p2, _⟩ := I.list hb
  obtain ⟨o1, n1, e1, c1, d1, t1⟩ := p1
  obtain ⟨o2, n2, e2, c2, d2, t2⟩ := p2
  obtain ⟨cls1, dd1, data1, sl1⟩ := o1
  obtain ⟨cls2, dd2, data2, sl2⟩ := o2
  simp only at c1 c2 d1 d2 t1 t2
  subst c1 c2 d1 d2 t1 t2
  refine concat_meets ⟨_, e1, rfl⟩ ⟨_, e2, rfl⟩ noFill_list_add seq_list_add F.slot_list_add F.entry_list_add (F.args_list_add_2 _ _)
    (list_addW a b its.toArray its2.toArray n1 n2 none none sl1 sl2 (by rw [List.size_toArray, List.size_toArray, ← r1.length, ← r2.length]; exact hz)) ⟨e1, e2, ?_⟩
  rw [show its.toArray ++ its2.toArray = (its ++ its2).toArray by simp]
  exact ⟨.ref _, _, I.lnew (t' := s.toks) (r1.append r2) (by rw [List.length_append]; exact hz), rfl, q _ I.fresh⟩
theorem o_add : OpR X (binaryOp .Add) (rOp2 X.K dAdd) := by
  intro pins s σ H xv yv v u Q I rx ry ⟨ok, dx, dy, r, hok, hx, hy, e, q⟩
  cases dx with
  | int i =>
    cases dy with
    | int j =>
      cases e; cases hx.int; cases hy.int
      exact op_add pins s σ H _ _ v u Q I rx ry ⟨i, j, rfl, rfl, q _ H Grow.refl (.int _)⟩
    | _ => cases e
  | str a =>
    cases dy with
    | str b =>
      simp only [dAdd] at e
      split at e
      · rename_i hz
        cases e
        obtain ⟨rfl, s1⟩ := hx.str
        obtain ⟨rfl, s2⟩ := hy.str
        exact op_add_str pins s σ H _ _ v u Q I rx ry ⟨a, b, rfl, rfl, sz6 hz, q _ H Grow.refl (.str _ (strOk_append s1 s2))⟩
      · cases e
    | _ => cases e
  | list a =>
    cases dy with
    | list b =>
      simp only [dAdd] at e
      split at e
      · rename_i hz
        cases e
        obtain ⟨l, xs, rfl, h1, z1, r1⟩ := hx.list
        obtain ⟨m, ys, rfl, h2, z2, r2⟩ := hy.list
        cases rx; cases ry
        have e1 := r1.length
        have e2 := r2.length
        refine lists_cat I h1 h2 (sz6 (by omega)) fun p hp => q _ _ (Grow.new hp) (.lst (hok p hp) upd_same (by rw [List.length_append]; exact sz6 hz) (RepL.keep (Grow.new hp).keep (r1.append r2)))
      · cases e
    | _ => cases e
  | tuple a =>
    cases dy with
    | tuple b =>
      simp only [dAdd] at e
      split at e
      · rename_i hz
        cases e
        obtain ⟨l, xs, rfl, h1, z1, r1⟩ := hx.tuple
        obtain ⟨m, ys, rfl, h2, z2, r2⟩ := hy.tuple
        have e1 := r1.length
        have e2 := r2.length
        refine op_catA pins s σ H _ _ v u Q I rx ry ⟨l, m, xs, ys, rfl, rfl, h1, h2, sz6 (by omega), fun hn => ?_, fun hn hm => ?_, fun hn hm p hp => ?_⟩
        · subst hn
          cases r1
          exact q _ H Grow.refl (.tup h2 z2 r2)
        · subst hm
          cases r2
          rw [List.append_nil] at q
          exact q _ H Grow.refl (.tup h1 z1 r1)
        · exact q _ _ (Grow.new hp) (.tup (SqT.of upd_same) (by rw [List.length_append]; exact sz6 hz) (RepL.keep (Grow.new hp).keep (r1.append r2)))
      · cases e
    | _ => cases e
  | _ => cases e
/-- an operator on two ints -/
theorem o_int2 {f : Value → Value → Sem Value} {C : Int → Int → Prop} {g : Int → Int → Int} {sem : PyData → PyData → Option PyData} (ho : OpR X f (rI C fun i j => .int (g i j)))
    (hs : ∀ x y r, sem x y = some r → ∃ i j, x = .int i ∧ y = .int j ∧ r = .int (g i j) ∧ C i j) : OpR X f (rOp2 X.K sem) := by
  intro pins s σ H xv yv v u Q I rx ry ⟨ok, dx, dy, r, hok, hx, hy, e, q⟩
  obtain ⟨i, j, rfl, rfl, rfl, hc⟩ := hs _ _ _ e
  cases hx.int; cases hy.int
  exact ho pins s σ H _ _ v u Q I rx ry ⟨i, j, rfl, rfl, hc, q _ H Grow.refl (.int _)⟩
theorem o_sub : OpR X (binaryOp .Sub) (rOp2 X.K dSub) := by
  refine o_int2 (C := fun _ _ => True) (g := fun i j => i - j) (fun pins s σ H x y v u Q I rx ry ⟨i, j, h1, h2, _, q⟩ => op_sub pins s σ H x y v u Q I rx ry ⟨i, j, h1, h2, q⟩) fun x y r e => ?_
  cases x <;> cases y <;> first | cases e | skip
  exact ⟨_, _, rfl, rfl, rfl, trivial⟩
theorem o_mul : OpR X (binaryOp .Mult) (rOp2 X.K dMul) := by
  refine o_int2 (g := fun i j => i * j) op_mulW fun x y r e => ?_
  cases x <;> cases y <;> first | cases e | skip
  simp only [dMul] at e
  split at e
  · rename_i h
    cases e
    exact ⟨_, _, rfl, rfl, rfl, by first | exact of_decide_eq_true (p := CMulP _ _) h | exact of_decide_eq_true (p := CDivP _) h | exact of_decide_eq_true (p := CPowP _ _) h⟩
  · cases e
theorem o_fdiv : OpR X (binaryOp .FloorDiv) (rOp2 X.K dFdiv) := by
  refine o_int2 (g := fun i j => i / j) op_fdivW fun x y r e => ?_
  cases x <;> cases y <;> first | cases e | skip
  simp only [dFdiv] at e
  split at e
  · rename_i h
    cases e
    exact ⟨_, _, rfl, rfl, rfl, by first | exact of_decide_eq_true (p := CMulP _ _) h | exact of_decide_eq_true (p := CDivP _) h | exact of_decide_eq_true (p := CPowP _ _) h⟩
  · cases e
theorem o_mod : OpR X (binaryOp .Mod) (rOp2 X.K dMod) := by
  refine o_int2 (g := fun i j => i % j) op_mod fun x y r e => ?_
  cases x <;> cases y <;> first | cases e | skip
  simp only [dMod] at e
  split at e
  · rename_i h
    cases e
    exact ⟨_, _, rfl, rfl, rfl, h⟩
  · cases e
theorem o_pow : OpR X (binaryOp .Pow) (rOp2 X.K dPow) := by
  refine o_int2 (g := fun i j => i ^ j.toNat) op_pow fun x y r e => ?_
  cases x <;> cases y <;> first | cases e | skip
  simp only [dPow] at e
  split at e
  · rename_i h
    cases e
    exact ⟨_, _, rfl, rfl, rfl, by first | exact of_decide_eq_true (p := CMulP _ _) h | exact of_decide_eq_true (p := CDivP _) h | exact of_decide_eq_true (p := CPowP _ _) h⟩
  · cases e
theorem o_neg : UnR X (unaryOp .USub) (rOp1 X.K dNeg) := by
  intro pins s σ H xv v Q I rx ⟨ok, dx, r, hok, hx, e, q⟩
  cases dx with
  | int i =>
    cases e; cases hx.int
    exact un_neg pins s σ H _ v Q I rx ⟨i, rfl, q _ H Grow.refl (.int _)⟩
  | _ => cases e
theorem eq_room {x y : PyData} {n : Nat} (h : eqOk x y = true) (hu : n + 64 < cLine) : n + min x.depth y.depth < cLine := by
  have := of_decide_eq_true h
  omega
theorem o_eq (hu : X.A.units + 64 < cLine) : OpR X (compareOp .Eq) (rOp2 X.K dEq) := by
  intro pins s σ H xv yv v u Q I rx ry ⟨ok, dx, dy, r, hok, hx, hy, e, q⟩
  unfold dEq at e
  split at e
  · rename_i h
    cases e
    obtain ⟨as, r1⟩ := Dp.reads I dx xv v hx.dp rx
    obtain ⟨bs, r2⟩ := Dp.reads I dy yv u hy.dp ry
    exact SeqAt.compareEq_reads r1 r2 hx.lay hy.lay (eq_room h hu) ⟨.bl _, H, I, rfl, q _ H Grow.refl (.bl _)⟩
  · cases e
theorem o_ne (hu : X.A.units + 64 < cLine) : OpR X (compareOp .NotEq) (rOp2 X.K dNe) := by
  intro pins s σ H xv yv v u Q I rx ry ⟨ok, dx, dy, r, hok, hx, hy, e, q⟩
  unfold dNe at e
  split at e
  · rename_i h
    cases e
    obtain ⟨as, r1⟩ := Dp.reads I dx xv v hx.dp rx
    obtain ⟨bs, r2⟩ := Dp.reads I dy yv u hy.dp ry
    exact SeqAt.compareNe_reads r1 r2 hx.lay hy.lay (eq_room h hu) ⟨.bl _, H, I, rfl, q _ H Grow.refl (.bl _)⟩
  · cases e
theorem o_lt (hu : X.A.units + 64 < cLine) : OpR X (compareOp .Lt) (rOp2 X.K dLt) := by
  intro pins s σ H xv yv v u Q I rx ry ⟨ok, dx, dy, r, hok, hx, hy, e, q⟩
  cases dx with
  | int i =>
    cases dy with
    | int j =>
      cases e; cases hx.int; cases hy.int
      exact op_lt pins s σ H _ _ v u Q I rx ry ⟨i, j, rfl, rfl, q _ H Grow.refl (.bl _)⟩
    | _ => cases e
  | str a =>
    cases dy with
    | str b =>
      cases e
      obtain ⟨rfl, _⟩ := hx.str
      obtain ⟨rfl, _⟩ := hy.str
      exact op_lt_str pins s σ H _ _ v u Q I rx ry ⟨a, b, rfl, rfl, q _ H Grow.refl (.bl _)⟩
    | _ => cases e
  | tuple a =>
    cases dy with
    | tuple b =>
      simp only [dLt] at e
      split at e
      · rename_i h
        cases e
        unfold cmpOk at h
        rw [Bool.and_eq_true, decide_eq_true_eq] at h
        obtain ⟨as, r1⟩ := Dp.reads I _ xv v hx.dp rx
        obtain ⟨bs, r2⟩ := Dp.reads I _ yv u hy.dp ry
        exact PySem.W.lt_data r1 r2 h.1 (fun z => nomatch z) (by have := h.2; omega) ⟨.bl _, H, I, rfl, q _ H Grow.refl (.bl _)⟩
      · cases e
    | _ => cases e
  | _ => cases e
theorem o_le (hu : X.A.units + 64 < cLine) : OpR X (compareOp .LtE) (rOp2 X.K dLe) := by
  intro pins s σ H xv yv v u Q I rx ry ⟨ok, dx, dy, r, hok, hx, hy, e, q⟩
  cases dx with
  | int i =>
    cases dy with
    | int j =>
      cases e; cases hx.int; cases hy.int
      exact op_le pins s σ H _ _ v u Q I rx ry ⟨i, j, rfl, rfl, q _ H Grow.refl (.bl _)⟩
    | _ => cases e
  | str a =>
    cases dy with
    | str b =>
      cases e
      obtain ⟨rfl, _⟩ := hx.str
      obtain ⟨rfl, _⟩ := hy.str
      exact op_le_str pins s σ H _ _ v u Q I rx ry ⟨a, b, rfl, rfl, q _ H Grow.refl (.bl _)⟩
    | _ => cases e
  | tuple a =>
    cases dy with
    | tuple b =>
      simp only [dLe] at e
      split at e
      · rename_i h
        cases e
        unfold cmpOk at h
        rw [Bool.and_eq_true, decide_eq_true_eq] at h
        obtain ⟨as, r1⟩ := Dp.reads I _ xv v hx.dp rx
        obtain ⟨bs, r2⟩ := Dp.reads I _ yv u hy.dp ry
        exact PySem.W.le_data r1 r2 h.1 (fun z => nomatch z) (by have := h.2; omega) ⟨.bl _, H, I, rfl, q _ H Grow.refl (.bl _)⟩
      · cases e
    | _ => cases e
  | _ => cases e
theorem o_gt : OpR X (compareOp .Gt) (rOp2 X.K dGt) := by
  intro pins s σ H xv yv v u Q I rx ry ⟨ok, dx, dy, r, hok, hx, hy, e, q⟩
  cases dx with
  | int i =>
    cases dy with
    | int j =>
      cases e; cases hx.int; cases hy.int
      exact op_gt pins s σ H _ _ v u Q I rx ry ⟨i, j, rfl, rfl, q _ H Grow.refl (.bl _)⟩
    | _ => cases e
  | _ => cases e
theorem o_ge : OpR X (compareOp .GtE) (rOp2 X.K dGe) := by
  intro pins s σ H xv yv v u Q I rx ry ⟨ok, dx, dy, r, hok, hx, hy, e, q⟩
  cases dx with
  | int i =>
    cases dy with
    | int j =>
      cases e; cases hx.int; cases hy.int
      exact op_ge pins s σ H _ _ v u Q I rx ry ⟨i, j, rfl, rfl, q _ H Grow.refl (.bl _)⟩
    | _ => cases e
  | _ => cases e
theorem Rep.isNon {K : PySem.W.Frag} {H : Hp} {ok : Addr → Prop} {v : V} {x : PyData} (r : RepB K H ok v x) : decide (v = .non) = isNonB x := by
  rcases r with r | ⟨a, xs, ds, rfl, rfl, _⟩
  · cases r <;> simp [isNonB]
  · simp [isNonB]
theorem o_isN : OpR X (compareOp .Is) (rOp2 X.K dIsN) := by
  intro pins s σ H xv yv v u Q I rx ry ⟨ok, dx, dy, r, hok, hx, hy, e, q⟩
  cases dy with
  | none =>
    cases e; cases hy.none
    refine op_isN pins s σ H _ _ v u Q I rx ry ⟨rfl, ?_⟩
    rw [Rep.isNon hx]
    exact q _ H Grow.refl (.bl _)
  | _ => cases e
theorem o_notN : OpR X (compareOp .IsNot) (rOp2 X.K dNotN) := by
  intro pins s σ H xv yv v u Q I rx ry ⟨ok, dx, dy, r, hok, hx, hy, e, q⟩
  cases dy with
  | none =>
    cases e; cases hy.none
    refine op_notN pins s σ H _ _ v u Q I rx ry ⟨rfl, ?_⟩
    rw [Rep.isNon hx]
    exact q _ H Grow.refl (.bl _)
  | _ => cases e
theorem in_room {x : PyData} {ds : List PyData} {n : Nat} (h : inOk x ds = true) (hu : n + 65 < cLine) : n + 1 + min (PyData.depthAll ds) x.depth < cLine := by
  have := of_decide_eq_true h
  omega
theorem o_in (hu : X.A.units + 65 < cLine) : OpR X (compareOp .In) (rOp2 X.K dIn) := by
  intro pins s σ H xv yv v u Q I rx ry ⟨ok, dx, dy, r, hok, hx, hy, e, q⟩
  obtain ⟨as, r1⟩ := Dp.reads I dx xv v hx.dp rx
  obtain ⟨bs, r2⟩ := Dp.reads I dy yv u hy.dp ry
  cases dy with
  | list ds =>
    simp only [dIn] at e
    split at e
    · rename_i h
      cases e
      exact SeqAt.in_list_reads r2 r1 hy.lay hx.lay (in_room h hu) ⟨.bl _, H, I, rfl, q _ H Grow.refl (.bl _)⟩
    · cases e
  | tuple ds =>
    simp only [dIn] at e
    split at e
    · rename_i h
      cases e
      exact SeqAt.in_tuple_reads r2 r1 hy.lay hx.lay (in_room h hu) ⟨.bl _, H, I, rfl, q _ H Grow.refl (.bl _)⟩
    · cases e
  | _ => cases e
theorem o_notIn (hu : X.A.units + 65 < cLine) : OpR X (compareOp .NotIn) (rOp2 X.K dNotIn) := by
  intro pins s σ H xv yv v u Q I rx ry ⟨ok, dx, dy, r, hok, hx, hy, e, q⟩
  obtain ⟨as, r1⟩ := Dp.reads I dx xv v hx.dp rx
  obtain ⟨bs, r2⟩ := Dp.reads I dy yv u hy.dp ry
  cases dy with
  | list ds =>
    simp only [dNotIn] at e
    split at e
    · rename_i h
      cases e
      exact SeqAt.notIn_list_reads r2 r1 hy.lay hx.lay (in_room h hu) ⟨.bl _, H, I, rfl, q _ H Grow.refl (.bl _)⟩
    · cases e
  | tuple ds =>
    simp only [dNotIn] at e
    split at e
    · rename_i h
      cases e
      exact SeqAt.notIn_tuple_reads r2 r1 hy.lay hx.lay (in_room h hu) ⟨.bl _, H, I, rfl, q _ H Grow.refl (.bl _)⟩
    · cases e
  | _ => cases e
theorem atI_rep {K : PySem.W.Frag} {H : Hp} {ok : Addr → Prop} {vs : List V} {ds : List PyData} {i : Int} {r : PyData} (rl : RepL K H ok vs ds) (e : atI ds i = some r) : ∃ v, atI vs i = some v ∧ Rep K H ok v r := by
  unfold atI at *
  rw [rl.length]
  cases q : ixN ds.length i with
  | none => rw [q] at e; cases e
  | some j =>
    rw [q] at e
    exact rl.get (i := j) e
theorem o_ix : IxR X (rOp2 X.K dIx) := by
  intro ea eb pins s σ H xv yv v u Q I rx ry h hsub
  obtain ⟨ok, dx, dy, r, hok, hx, hy, e, q⟩ := h
  cases dx with
  | list ds =>
    cases dy with
    | int i =>
      obtain ⟨l, xs, rfl, h1, z1, r1⟩ := hx.list
      cases hy.int
      obtain ⟨w, e1, rw⟩ := atI_rep r1 e
      exact ix_list ea eb pins s σ H _ _ v u Q I rx ry ⟨l, xs, i, w, rfl, rfl, h1, e1, q _ H Grow.refl rw⟩ hsub
    | _ => cases e
  | tuple ds =>
    cases dy with
    | int i =>
      obtain ⟨l, xs, rfl, h1, z1, r1⟩ := hx.tuple
      cases hy.int
      obtain ⟨w, e1, rw⟩ := atI_rep r1 e
      exact ix_tup ea eb pins s σ H _ _ v u Q I rx ry ⟨l, xs, i, w, rfl, rfl, h1, e1, q _ H Grow.refl rw⟩ hsub
    | _ => cases e
  | _ => cases e
theorem cut_rep {K : PySem.W.Frag} {H : Hp} {ok : Addr → Prop} {vs : List V} {ds : List PyData} (rl : RepL K H ok vs ds) (lo hi : Option Int) : RepL K H ok (cutV vs lo hi) (cutD ds lo hi) := by
  unfold cutV cutD
  rw [rl.length]
  exact (rl.drop _).take _
theorem cut_len (ds : List PyData) (lo hi : Option Int) : (cutD ds lo hi).length ≤ ds.length := by
  unfold cutD
  rw [List.length_take, List.length_drop]
  omega
theorem cut_whole {K : PySem.W.Frag} {H : Hp} {ok : Addr → Prop} {vs : List V} {ds : List PyData} (rl : RepL K H ok vs ds) {lo hi : Option Int} (h : HT.sIx vs.length 0 lo = 0 ∧ HT.sIx vs.length vs.length hi = vs.length) : cutD ds lo hi = ds := by
  unfold cutD
  rw [← rl.length, h.1, h.2, List.drop_zero, Nat.sub_zero, rl.length, List.take_length]
def rSl (K : PySem.W.Frag) : V → Option Int → Option Int → Hp → VK → Prop := fun xv lo hi H Q => ∃ (ok : Addr → Prop) (dx r : PyData), (∀ p, H p = none → ok p) ∧ RepB K H ok xv dx ∧ dSl dx lo hi = some r ∧ ∀ v H', Grow H H' → Rep K H' ok v r → Q v H'
theorem strOk_cut {z : Str} (h : PyData.strOk z = true) {lo hi : Option Int} : PyData.strOk (cutS z lo hi) = true := by
  unfold PyData.strOk cutS at *
  rw [List.all_toArray, List.all_eq_true]
  rw [← Array.all_toList, List.all_eq_true] at h
  exact fun c hc => h c (List.mem_of_mem_drop (List.mem_of_mem_take hc))
theorem o_sl : SlR X (rSl X.K) := by
  intro pins s σ H xv v vl vu lo hi sl Q I rx hs pl pu h
  obtain ⟨ok, dx, r, hok, hx, e, q⟩ := h
  cases dx with
  | list ds =>
    cases e
    obtain ⟨l, xs, rfl, h1, z1, r1⟩ := hx.list
    exact sl_list pins s σ H _ v vl vu lo hi sl Q I rx hs pl pu ⟨l, xs, rfl, h1, fun p hp =>
      q _ _ (Grow.new hp) (.lst (hok p hp) upd_same (Nat.le_trans (cut_len ds lo hi) z1) (RepL.keep (Grow.new hp).keep (cut_rep r1 lo hi)))⟩
  | tuple ds =>
    cases e
    obtain ⟨l, xs, rfl, h1, z1, r1⟩ := hx.tuple
    refine sl_tupA pins s σ H _ v vl vu lo hi sl Q I rx hs pl pu ⟨l, xs, rfl, h1, fun w => ?_, fun _ p hp => ?_⟩
    · rw [cut_whole r1 w] at q
      exact q _ H Grow.refl (.tup h1 z1 r1)
    · exact q _ _ (Grow.new hp) (.tup (SqT.of upd_same) (Nat.le_trans (cut_len ds lo hi) z1) (RepL.keep (Grow.new hp).keep (cut_rep r1 lo hi)))
  | str z =>
    simp only [dSl] at e
    split at e
    · rename_i hz
      cases e
      obtain ⟨rfl, hs1⟩ := hx.str
      exact sl_str pins s σ H _ v vl vu lo hi sl Q I rx hs pl pu ⟨z, rfl, sz6 hz, q _ H Grow.refl (.str _ (strOk_cut hs1))⟩
    · cases e
  | _ => cases e

/-! ### built-in functions -/
theorem RepBs.one {K : PySem.W.Frag} {H : Hp} {ok : Addr → Prop} {vs : List V} {d : PyData} (r : RepBs K H ok vs [d]) : ∃ v, vs = [v] ∧ RepB K H ok v d := by
  cases r with
  | cons h t => cases t; exact ⟨_, rfl, h⟩
theorem RepBs.two {K : PySem.W.Frag} {H : Hp} {ok : Addr → Prop} {vs : List V} {d d2 : PyData} (r : RepBs K H ok vs [d, d2]) : ∃ v v2, vs = [v, v2] ∧ RepB K H ok v d ∧ RepB K H ok v2 d2 := by
  cases r with
  | cons h t =>
    cases t with
    | cons h2 t2 => cases t2; exact ⟨_, _, rfl, h, h2⟩
theorem c_len : CallR X (.builtin "len") (rCall X.K dLen) := by
  intro pins s σ H xs us Q I rx ⟨ok, ds, r, hok, hx, e, q⟩
  match ds, e with
  | [.list ds], e =>
    cases e
    obtain ⟨v, rfl, h⟩ := hx.one
    obtain ⟨l, ys, rfl, h1, z1, r1⟩ := h.list
    rw [← r1.length] at q
    exact call_len_seq pins s σ H _ us Q I rx ⟨l, ys, rfl, .inl h1, q _ H Grow.refl (.int _)⟩
  | [.tuple ds], e =>
    cases e
    obtain ⟨v, rfl, h⟩ := hx.one
    obtain ⟨l, ys, rfl, h1, z1, r1⟩ := h.tuple
    rw [← r1.length] at q
    exact call_len_seq pins s σ H _ us Q I rx ⟨l, ys, rfl, .inr h1, q _ H Grow.refl (.int _)⟩
  | [.str z], e =>
    simp only [dLen] at e
    split at e
    · rename_i hz
      cases e
      obtain ⟨v, rfl, h⟩ := hx.one
      obtain ⟨rfl, _⟩ := h.str
      exact call_len_str pins s σ H _ us Q I rx ⟨z, rfl, sz6 hz, q _ H Grow.refl (.int _)⟩
    · cases e
theorem c_abs : CallR X (.builtin "abs") (rCall X.K dAbs) := by
  intro pins s σ H xs us Q I rx ⟨ok, ds, r, hok, hx, e, q⟩
  match ds, e with
  | [.int i], e =>
    cases e
    obtain ⟨v, rfl, h⟩ := hx.one
    cases h.int
    exact call_abs pins s σ H _ us Q I rx ⟨i, rfl, q _ H Grow.refl (.int _)⟩
theorem c_min (hc : X.calm = true) : CallR X (.builtin "min") (rCall X.K dMin2) := by
  intro pins s σ H xs us Q I rx ⟨ok, ds, r, hok, hx, e, q⟩
  match ds, e with
  | [.int i, .int j], e =>
    cases e
    obtain ⟨v, v2, rfl, h, h2⟩ := hx.two
    cases h.int; cases h2.int
    exact call_min2 hc pins s σ H _ us Q I rx ⟨i, j, rfl, q _ H Grow.refl (.int _)⟩
theorem c_max (hc : X.calm = true) : CallR X (.builtin "max") (rCall X.K dMax2) := by
  intro pins s σ H xs us Q I rx ⟨ok, ds, r, hok, hx, e, q⟩
  match ds, e with
  | [.int i, .int j], e =>
    cases e
    obtain ⟨v, v2, rfl, h, h2⟩ := hx.two
    cases h.int; cases h2.int
    exact call_max2 hc pins s σ H _ us Q I rx ⟨i, j, rfl, q _ H Grow.refl (.int _)⟩
theorem c_list : CallR X (.type "list") (rCall X.K dList) := by
  intro pins s σ H xs us Q I rx ⟨ok, ds, r, hok, hx, e, q⟩
  match ds, e with
  | [.list ds], e =>
    cases e
    obtain ⟨v, rfl, h⟩ := hx.one
    obtain ⟨l, ys, rfl, h1, z1, r1⟩ := h.list
    exact call_list_of pins s σ H _ us Q I rx ⟨l, ys, rfl, .inl h1, fun p hp => q _ _ (Grow.new hp) (.lst (hok p hp) upd_same z1 (RepL.keep (Grow.new hp).keep r1))⟩
  | [.tuple ds], e =>
    cases e
    obtain ⟨v, rfl, h⟩ := hx.one
    obtain ⟨l, ys, rfl, h1, z1, r1⟩ := h.tuple
    exact call_list_of pins s σ H _ us Q I rx ⟨l, ys, rfl, .inr h1, fun p hp => q _ _ (Grow.new hp) (.lst (hok p hp) upd_same z1 (RepL.keep (Grow.new hp).keep r1))⟩
theorem c_tuple : CallR X (.type "tuple") (rCall X.K dTuple) := by
  intro pins s σ H xs us Q I rx ⟨ok, ds, r, hok, hx, e, q⟩
  match ds, e with
  | [.list ds], e =>
    cases e
    obtain ⟨v, rfl, h⟩ := hx.one
    obtain ⟨l, ys, rfl, h1, z1, r1⟩ := h.list
    exact call_tuple_of pins s σ H _ us Q I rx ⟨l, ys, rfl, .inl ⟨h1, fun p hp => q _ _ (Grow.new hp) (.tup (SqT.of upd_same) z1 (RepL.keep (Grow.new hp).keep r1))⟩⟩
  | [.tuple ds], e =>
    cases e
    obtain ⟨v, rfl, h⟩ := hx.one
    obtain ⟨l, ys, rfl, h1, z1, r1⟩ := h.tuple
    exact call_tuple_of pins s σ H _ us Q I rx ⟨l, ys, rfl, .inr ⟨h1, q _ H Grow.refl (.tup h1 z1 r1)⟩⟩
end
end G
/-! GE: calls of built-in functions, isinstance, subscripts, slices. -/
namespace G
open PySem PySem.Spec PyProof.Rows L2

@[simp] def xIx (f g : Fr → Res AV) : Fr → Res AV := xOp2 dIx f g
/-- a bound of a slice -/
@[simp] def xNo : Fr → Res (Option Int) := fun fr => .ok none fr
@[simp] def xSo (f : Fr → Res AV) : Fr → Res (Option Int) := fun fr => (f fr).bind fun a fr1 => match a with
  | .dat (.int i) => .ok (some i) fr1
  | _ => .err
@[simp] def xSl (f : Fr → Res AV) (l u : Fr → Res (Option Int)) : Fr → Res AV := fun fr => (f fr).bind fun a fr1 => (l fr1).bind fun lo fr2 => (u fr2).bind fun hi fr3 => match fr3.view a with
  | some x => ofO fr3 (dSl x lo hi)
  | none => .err
@[simp] def xB1 (sem : List PyData → Option PyData) (gs : Fr → Res (List AV)) : Fr → Res AV := fun fr => (gs fr).bind fun as fr1 => match views fr1 as with
  | some ds => ofO fr1 (sem ds)
  | none => .err

section
variable {X : Cx} {x : XW} {a b d : Expr} {f g h : Fr → Res AV} {pos : Pos}
theorem ae_ix (ha : AE X x a f) (hb : AE X x b g) (hs : PlainIx b := by intro _ _; rfl) : AE X x (.Subscript a b pos) (xIx f g) :=
  (pe_ix o_ix ha hb hs).imp fun _ _ _ h => tE_op2 h
/-- a part of a slice -/
abbrev AO (X : Cx) (x : XW) (o : Option Expr) (l : Fr → Res (Option Int)) : Prop :=
  PO X o fun σ H Q => ∃ c fr ad, FR (pX X) c fr ad σ H ∧ Out (pX X) x c ad σ H (l fr) fun i _ _ H' => Q i H'
theorem _root_.L2.PO.imp {X : Cx} {o : Option Expr} {t t' : TO} (h : PO X o t) (hi : ∀ σ H Q, t' σ H Q → t σ H Q) : PO X o t' := ⟨fun pins s σ H Q I q => h.run pins s σ H Q I (hi σ H Q q)⟩
theorem ao_none : AO X x none xNo := (po_none).imp fun σ H Q ⟨c, fr, ad, F, o⟩ => o ad H F Mv.refl
theorem ao_some (ha : AE X x a f) : AO X x (some a) (xSo f) := by
  refine (po_some ha).imp fun σ H Q ⟨c, fr, ad, F, o⟩ => ⟨c, fr, ad, F, (Out.bind F o).mono fun av fr1 ad1 H1 F1 m1 o1 v rv => ?_⟩
  cases av with
  | dat y =>
    cases y with
    | int i =>
      cases RepB.int (.inl rv)
      exact ⟨i, rfl, o1 ad1 H1 F1 Mv.refl⟩
    | _ => exact o1.elim
  | _ => exact o1.elim
theorem ae_sl {lo hi : Option Expr} {l u : Fr → Res (Option Int)} {p2 : Pos} (ha : AE X x a f) (hl : AO X x lo l) (hu : AO X x hi u) : AE X x (.Subscript a (.Slice lo hi none p2) pos) (xSl f l u) := by
  refine (pe_slice o_sl ha hl hu).imp fun σ H Q ⟨c, fr, ad, F, o⟩ => ⟨c, fr, ad, F, (Out.bind F o).mono fun av fr1 ad1 H1 F1 m1 o1 v rv => ?_⟩
  refine ⟨c, fr1, ad1, F1, (Out.bind F1 o1).mono fun i fr2 ad2 H2 F2 m2 o2 => ?_⟩
  refine ⟨c, fr2, ad2, F2, (Out.bind F2 o2).mono fun j fr3 ad3 H3 F3 m3 o3 => ?_⟩
  have r3 := RepA.mv F2 m3 (RepA.mv F1 m2 rv)
  cases q1 : fr3.view av with
  | none => rw [q1] at o3; exact o3.elim
  | some dx =>
    rw [q1] at o3
    simp only [ofO] at o3
    cases q3 : dSl dx i j with
    | none => rw [q3] at o3; exact o3.elim
    | some r =>
      rw [q3] at o3
      exact ⟨okP c ad3, dx, r, fun p hp => okP_new F3 hp, view_rep F3 r3 q1, q3, fun w H4 gr rw => o3 ad3 H4 (F3.grow gr) (Mv.grow gr) w rw⟩
theorem views_rep {p : Par} {c : Ent} {fr : Fr} {ad : List (Option Addr)} {σ : L2.St} {H : Hp} (F : FR p c fr ad σ H) : ∀ {vs : List V} {as : List AV} {ds : List PyData}, RepAs p H (okP c ad) ad vs as → views fr as = some ds → RepBs p.K H (okP c ad) vs ds
  | _, _, _, .nil, e => by cases e; exact .nil
  | _, a :: as, ds, .cons r rs, e => by
    unfold views at e
    cases q1 : fr.view a with
    | none => rw [q1] at e; cases e
    | some y =>
      cases q2 : views fr as with
      | none => rw [q1, q2] at e; cases e
      | some ys =>
        rw [q1, q2] at e
        cases e
        exact .cons (view_rep F r q1) (views_rep F rs q2)
theorem tA_call {sem : List PyData → Option PyData} {gs : Fr → Res (List AV)} {σ : L2.St} {H : Hp} {Q : VK} (h : tE (pX X) x (xB1 sem gs) σ H Q) : tA (pX X) x gs σ H fun vs H1 => rCall X.K sem vs H1 Q := by
  obtain ⟨c, fr, ad, F, o⟩ := h
  refine ⟨c, fr, ad, F, (Out.bind F o).mono fun as fr1 ad1 H1 F1 m1 o1 vs rvs => ?_⟩
  cases q1 : views fr1 as with
  | none => rw [q1] at o1; exact o1.elim
  | some ds =>
    rw [q1] at o1
    simp only [ofO] at o1
    cases q3 : sem ds with
    | none => rw [q3] at o1; exact o1.elim
    | some r =>
      rw [q3] at o1
      exact ⟨okP c ad1, ds, r, fun p hp => okP_new F1 hp, views_rep F1 rvs q1, q3, fun w H3 gr rw => o1 ad1 H3 (F1.grow gr) (Mv.grow gr) w rw⟩
/-- a built-in function, a built-in class, called -/
theorem ae_callB {id : String} {n : Str} {sem : List PyData → Option PyData} {gs : Fr → Res (List AV)} {es : List Expr} {p1 : Pos} (hc : CallR X (.builtin id) (rCall X.K sem)) (hg : Gl X n) (hm : X.mg n = none) (hv : bootBuiltins n = some (.builtin id)) (ha : AA X x (a :: es) gs)
    (hn : n ≠ "__name__" := by decide) (hdb : (n == ("__debug__" : Str)) = false := by decide) (he : starEach (a :: es) X.env = (false, eval a X.env) :: starEach es X.env := by rfl) (hpl : (backTo pos (starEach es X.env)).any (·.1) = false := by rfl) :
    AE X x (.Call (.Name n p1) (a :: es) [] pos) (xB1 sem gs) :=
  (pe_callB hc hg hm hv ha hn hdb he hpl).imp fun _ _ _ h => tA_call h
theorem ae_callT {T : String} {n : Str} {sem : List PyData → Option PyData} {gs : Fr → Res (List AV)} {es : List Expr} {p1 : Pos} (hc : CallR X (.type T) (rCall X.K sem)) (hg : Gl X n) (hm : X.mg n = none) (hv : bootBuiltins n = some (.type T)) (ha : AA X x (a :: es) gs)
    (hn : n ≠ "__name__" := by decide) (hdb : (n == ("__debug__" : Str)) = false := by decide) (he : starEach (a :: es) X.env = (false, eval a X.env) :: starEach es X.env := by rfl) (hpl : (backTo pos (starEach es X.env)).any (·.1) = false := by rfl) :
    AE X x (.Call (.Name n p1) (a :: es) [] pos) (xB1 sem gs) :=
  (pe_callTy hc hg hm hv ha hn hdb he hpl).imp fun _ _ _ h => tA_call h

/-! ### isinstance -/
def tyN : PyData → String
  | .none => "NoneType"
  | .bool _ => "bool"
  | .int _ => "int"
  | .str _ => "str"
  | .list _ => "list"
  | .tuple _ => "tuple"
  | .dict _ => "dict"
def isiN (T n : String) : Bool := n == T || (T == "int" && n == "bool")
def isi (T : String) (d : PyData) : Bool := isiN T (tyN d)
def kinds : List String := ["NoneType", "bool", "int", "str", "list", "tuple"]
def TyOk (T : String) : Prop := ∀ n ∈ kinds, kitB n T = some (isiN T n)
theorem tyOk_int : TyOk "int" := by unfold TyOk kinds; decide +kernel
theorem tyOk_bool : TyOk "bool" := by unfold TyOk kinds; decide +kernel
theorem tyOk_str : TyOk "str" := by unfold TyOk kinds; decide +kernel
theorem tyOk_list : TyOk "list" := by unfold TyOk kinds; decide +kernel
theorem tyOk_tuple : TyOk "tuple" := by unfold TyOk kinds; decide +kernel
theorem kind_mem {K : PySem.W.Frag} {H : Hp} {ok : Addr → Prop} {v : V} {y : PyData} (r : RepB K H ok v y) : tyN y ∈ kinds := by
  have hl := r.lay
  cases y <;> first | (simp [tyN, kinds]; done) | cases hl
/-- what the library's isinstance asks of a value -/
theorem kit_rep {pins : List (Addr × Obj)} {σ : L2.St} {H : Hp} {s : Shared} {ok : Addr → Prop} {v : V} {u : Value} {y : PyData} (I : Inv X pins σ H s) (rv : RelV v u) (r : RepB X.K H ok v y) :
    ∃ P : Heap → Prop, PySem.W.KitX X.K u (.type (tyN y)) P ∧ P s.heap ∧ u ≠ .builtin "__main__.__loader__#opaque" := by
  cases y with
  | none => cases r.none; cases rv; exact ⟨_, PySem.W.kitx_none, True.intro, fun z => nomatch z⟩
  | bool k => cases r.bool; cases rv; exact ⟨_, PySem.W.kitx_bool, True.intro, fun z => nomatch z⟩
  | int i => cases r.int; obtain ⟨t, rfl⟩ := rv; exact ⟨_, PySem.W.kitx_int, True.intro, fun z => nomatch z⟩
  | str z => obtain ⟨rfl, _⟩ := r.str; obtain ⟨t, rfl⟩ := rv; exact ⟨_, PySem.W.kitx_str, True.intro, fun z => nomatch z⟩
  | list ds =>
    obtain ⟨l, xs, rfl, h1, _, _⟩ := r.list
    cases rv
    obtain ⟨its, _, ⟨o, n, e, hc, _⟩, _⟩ := I.list h1
    exact ⟨_, PySem.W.kitx_list, ⟨o, e, hc⟩, fun z => nomatch z⟩
  | tuple ds =>
    obtain ⟨l, xs, rfl, h1, _, _⟩ := r.tuple
    cases rv
    obtain ⟨its, _, ⟨o, e, hc, _⟩, _⟩ := I.tuple h1
    exact ⟨_, PySem.W.kitx_tuple, ⟨o, e, hc⟩, fun z => nomatch z⟩
  | dict kvs => have z := r.lay; cases z
def rIs1 (K : PySem.W.Frag) (T : String) : List V → Hp → VK → Prop := fun xs H Q => ∃ (ok : Addr → Prop) (v : V) (y : PyData), xs = [v, .ty T] ∧ RepB K H ok v y ∧ Q (.bl (isi T y)) H
theorem c_is1 {T : String} (ht : TyOk T) : CallR X (.builtin "isinstance") (rIs1 X.K T) := by
  intro pins s σ H xs us Q I r h
  obtain ⟨ok, v, y, rfl, ry, q⟩ := h
  obtain ⟨u1, u2, rfl, r1, r2⟩ := vals2 r
  cases (show u2 = Value.type T from r2)
  obtain ⟨P, Z, p, hx⟩ := kit_rep I r1 ry
  exact PySem.W.kia_one Z I.kIn p (kit_ty (ht _ (kind_mem ry))) hx fun tk => ⟨.bl _, H, I.tok tk, rfl, q⟩
def rIs2 (K : PySem.W.Frag) (T U : String) : List V → Hp → VK → Prop := fun xs H Q => ∃ (ok : Addr → Prop) (v : V) (y : PyData) (tp : Addr), xs = [v, .ref tp] ∧ H tp = some (.tup [.ty T, .ty U]) ∧ RepB K H ok v y ∧ Q (.bl (isi T y || isi U y)) H
theorem c_is2 {T U : String} (ht : TyOk T) (hu : TyOk U) : CallR X (.builtin "isinstance") (rIs2 X.K T U) := by
  intro pins s σ H xs us Q I r h
  obtain ⟨ok, v, y, tp, rfl, hT, ry, q⟩ := h
  obtain ⟨u1, u2, rfl, r1, r2⟩ := vals2 r
  cases (show u2 = Value.ref tp from r2)
  obtain ⟨P, Z, p, hx⟩ := kit_rep I r1 ry
  obtain ⟨_, its, rv, o, h1, h2, n, h3⟩ := (show ObjOk X.prog X.w H s.heap tp (.tup [.ty T, .ty U]) from I.hok tp _ hT)
  obtain ⟨w1, w2, rfl, q1, q2⟩ := vals2 rv
  cases (show w1 = Value.type T from q1)
  cases (show w2 = Value.type U from q2)
  obtain ⟨oc, od, dt, sl⟩ := o
  simp only at h2 h3
  subst h2 h3
  have e : PySem.W.kitAny X.K (.type (tyN y)) [.type T, .type U] = some (isi T y || isi U y) := by
    refine kitAny_cons (kit_ty (ht _ (kind_mem ry))) (fun h => ?_) fun h => ?_
    · have h' : isi T y = false := h
      rw [h', Bool.false_or]
      refine kitAny_cons (kit_ty (hu _ (kind_mem ry))) (fun h2 => ?_) fun h2 => h2
      have h2' : isi U y = false := h2
      rw [h2']
      exact kitAny_nil
    · have h' : isi T y = true := h
      rw [h', Bool.true_or]
  exact PySem.W.kia_tup Z I.kIn p h1 e hx fun tk => ⟨.bl _, H, I.tok tk, rfl, q⟩
@[simp] def xIsi (k : PyData → Bool) (f : Fr → Res AV) : Fr → Res AV := fun fr => (f fr).bind fun a fr1 => match fr1.view a with
  | some y => .ok (.dat (.bool (k y))) fr1
  | none => .err
theorem ae_is1 {T : String} {n : Str} {p1 p2 : Pos} (ht : TyOk T) (hi : Gl X "isinstance") (mi : X.mg "isinstance" = none) (hg : Gl X n) (hm : X.mg n = none) (hv : bootBuiltins n = some (.type T)) (ha : AE X x a f)
    (hn : n ≠ "__name__" := by decide) (hdb : (n == ("__debug__" : Str)) = false := by decide) (hst : starEach [a, .Name n p2] X.env = (false, eval a X.env) :: starEach [.Name n p2] X.env := by rfl) :
    AE X x (.Call (.Name "isinstance" p1) [a, .Name n p2] [] pos) (xIsi (isi T) f) := by
  refine (pe_callB (c_is1 ht) hi mi (by decide +kernel) (pa_cons ha (pa_cons (pe_bltn (v := .ty T) hg hm hv rfl hn hdb) pa_nil) hst) (by decide) (by decide) hst).imp fun σ H Q ⟨c, fr, ad, F, o⟩ => ?_
  refine ⟨c, fr, ad, F, (Out.bind F o).mono fun av fr1 ad1 H1 F1 m1 o1 v rv => ?_⟩
  cases q1 : fr1.view av with
  | none => rw [q1] at o1; exact o1.elim
  | some y =>
    rw [q1] at o1
    exact ⟨okP c ad1, v, y, rfl, view_rep F1 rv q1, o1 ad1 H1 F1 Mv.refl _ (.bl _)⟩
theorem ae_is2 {T U : String} {n m : Str} {k : Nat} {p1 p2 p3 p4 : Pos} (ht : TyOk T) (hu : TyOk U) (hi : Gl X "isinstance") (mi : X.mg "isinstance" = none) (hg : Gl X n) (hm : X.mg n = none) (hv : bootBuiltins n = some (.type T)) (hg2 : Gl X m) (hm2 : X.mg m = none) (hv2 : bootBuiltins m = some (.type U)) (ha : AE X x a f)
    (hn : n ≠ "__name__" := by decide) (hdb : (n == ("__debug__" : Str)) = false := by decide) (hn2 : m ≠ "__name__" := by decide) (hdb2 : (m == ("__debug__" : Str)) = false := by decide) (hst : starEach [a, .Tuple [.Name n p2, .Name m p3] k p4] X.env = (false, eval a X.env) :: starEach [.Tuple [.Name n p2, .Name m p3] k p4] X.env := by rfl) :
    AE X x (.Call (.Name "isinstance" p1) [a, .Tuple [.Name n p2, .Name m p3] k p4] [] pos) (xIsi (fun y => isi T y || isi U y) f) := by
  refine (pe_callB (c_is2 ht hu) hi mi (by decide +kernel) (pa_cons ha (pa_cons (pe_tup (pa_cons (pe_bltn (v := .ty T) hg hm hv rfl hn hdb) (pa_cons (pe_bltn (v := .ty U) hg2 hm2 hv2 rfl hn2 hdb2) pa_nil))) pa_nil) hst) (by decide) (by decide) hst).imp fun σ H Q ⟨c, fr, ad, F, o⟩ => ?_
  refine ⟨c, fr, ad, F, (Out.bind F o).mono fun av fr1 ad1 H1 F1 m1 o1 v rv => ?_⟩
  cases q1 : fr1.view av with
  | none => rw [q1] at o1; exact o1.elim
  | some y =>
    rw [q1] at o1
    refine ⟨by show 2 ≤ sizeLine; rw [sizeLine_eq]; decide, fun p hp => ?_⟩
    have gr : Grow H1 (upd H1 p (.tup [.ty T, .ty U])) := Grow.new hp
    refine ⟨okP c ad1, v, y, p, rfl, upd_same, ?_, o1 ad1 _ (F1.grow gr) (Mv.grow gr) _ (.bl _)⟩
    exact view_rep (F1.grow gr) (RepA.mv F1 (Mv.grow gr) rv) q1
end
end G
/-! GF: statements; what a def says; calls. -/
namespace G
open PySem PySem.Spec PyProof.Rows L2

inductive SRes where
  | nx (f : Fr)
  | ret (a : AV) (f : Fr)
  | bk (f : Fr)
  | ct (f : Fr)
  | exc (c : Str) (fs : List (Str × PyData)) (f : Fr)
  | err
def SOut (p : Par) (x : XW) (c : Ent) (r : SRes) (D : Ends) : Prop := match r with
  | .nx fr' => ∀ ad' σ' H', FR p c fr' ad' σ' H' → D.nx σ' H'
  | .ret a fr' => ∀ ad' σ' H' v, FR p c fr' ad' σ' H' → RepA p H' (okP c ad') ad' v a → D.rt v H'
  | .bk fr' => ∀ ad' σ' H', FR p c fr' ad' σ' H' → D.bk σ' H'
  | .ct fr' => ∀ ad' σ' H', FR p c fr' ad' σ' H' → D.ct σ' H'
  | .exc cl fs fr' => ∀ ad' σ' H' C d, FR p c fr' ad' σ' H' → x.C cl fs H' C d → x.W C d σ' H'
  | .err => False
def tS (p : Par) (x : XW) (f : Fr → SRes) : TS := fun D σ H => ∃ c fr ad, FR p c fr ad σ H ∧ SOut p x c (f fr) D
abbrev AS (X : Cx) (x : XW) (st : Stmt) (f : Fr → SRes) : Prop := PS X st (tS (pX X) x f)
abbrev ASs (X : Cx) (x : XW) (st : List Stmt) (f : Fr → SRes) : Prop := PSs X st (tS (pX X) x f)
/-- from an expression's result to a statement's -/
@[simp] def Res.toS {α : Type} (r : Res α) (k : α → Fr → SRes) : SRes := match r with
  | .ok a f => k a f
  | .exc c fs f => .exc c fs f
  | .err => .err
@[simp] def SRes.then (r : SRes) (k : Fr → SRes) : SRes := match r with
  | .nx f => k f
  | r => r

/-! ### the frame changes -/
section
variable {p : Par} {c : Ent} {fr : Fr} {ad : List (Option Addr)} {σ : L2.St} {H H' : Hp}
@[simp] def Fr.setv (fr : Fr) (i : Nat) (a : Option AV) : Fr := ⟨fr.vars.set i a, fr.cells, fr.base⟩
theorem FR.setv (F : FR p c fr ad σ H) {i : Nat} {v : V} {a : AV} (r : RepA p H (okP c ad) ad v a) : FR p c (fr.setv i (some a)) ad (σ.set i (some v)) H where
  len := by simp [Fr.setv, F.len]
  var := fun j av e => by
    by_cases h : i = j
    · subst h
      by_cases hl : i < fr.vars.length
      · rw [Fr.setv, List.getElem?_set_self hl] at e
        cases e
        exact ⟨v, List.getElem?_set_self (by rw [← F.len]; exact hl), r⟩
      · rw [Fr.setv, List.getElem?_eq_none (by simpa using hl)] at e
        cases e
    · rw [Fr.setv, List.getElem?_set_ne h] at e
      obtain ⟨w, h1, h2⟩ := F.var j av e
      exact ⟨w, by rw [List.getElem?_set_ne h]; exact h1, h2⟩
  clen := F.clen
  cel := F.cel
  nd := F.nd
  old := F.old
  sub := F.sub
  adw := F.adw
  gh := F.gh
  pr := F.pr
  bs := F.bs
/-- slots forgotten -/
@[simp] def kill : List Nat → List (Option AV) → List (Option AV)
  | [], vs => vs
  | i :: is, vs => (kill is vs).set i none
theorem kill_len (vs : List (Option AV)) : ∀ is : List Nat, (kill is vs).length = vs.length
  | [] => rfl
  | i :: is => by rw [kill, List.length_set, kill_len vs is]
theorem kill_some {vs : List (Option AV)} {j : Nat} {a : AV} : ∀ {is : List Nat}, (kill is vs)[j]? = some (some a) → vs[j]? = some (some a) ∧ j ∉ is
  | [], h => ⟨h, by simp⟩
  | i :: is, h => by
    rw [kill] at h
    by_cases hi : i = j
    · subst hi
      by_cases hl : i < (kill is vs).length
      · rw [List.getElem?_set_self hl] at h; cases h
      · rw [List.getElem?_eq_none (by simpa using hl)] at h; cases h
    · rw [List.getElem?_set_ne hi] at h
      obtain ⟨h1, h2⟩ := kill_some h
      exact ⟨h1, by simp only [List.mem_cons, not_or]; exact ⟨fun e => hi e.symm, h2⟩⟩
@[simp] def Fr.kill (fr : Fr) (is : List Nat) : Fr := ⟨G.kill is fr.vars, fr.cells, fr.base⟩
theorem FR.kill (F : FR p c fr ad σ H) (is : List Nat) : FR p c (fr.kill is) ad σ H where
  len := by rw [Fr.kill, kill_len]; exact F.len
  var := fun j av e => F.var j av (kill_some e).1
  clen := F.clen
  cel := F.cel
  nd := F.nd
  old := F.old
  sub := F.sub
  adw := F.adw
  gh := F.gh
  pr := F.pr
  bs := F.bs
/-- a new cell, at a new place -/
@[simp] def Fr.newc (fr : Fr) (cl : Cell) : Fr := ⟨fr.vars, fr.cells ++ [cl], fr.base⟩
theorem snoc_at {α : Type} {l : List α} {x y : α} {i : Nat} (h : (l ++ [x])[i]? = some y) : l[i]? = some y ∨ (i = l.length ∧ y = x) := by
  by_cases hi : i < l.length
  · rw [List.getElem?_append_left hi] at h; exact .inl h
  · rw [List.getElem?_append_right (Nat.le_of_not_lt hi)] at h
    cases hk : i - l.length with
    | zero => rw [hk] at h; simp at h; exact .inr ⟨by omega, h.symm⟩
    | succ n => rw [hk] at h; simp at h
theorem snoc_pre {α : Type} {l : List α} {x y : α} {i : Nat} (h : l[i]? = some y) : (l ++ [x])[i]? = some y := by
  have hi : i < l.length := by
    rcases Nat.lt_or_ge i l.length with q | q
    · exact q
    · rw [List.getElem?_eq_none q] at h; cases h
  rw [List.getElem?_append_left hi]; exact h
theorem mv_new {a : Addr} {o : HO} (n : H a = none) : Mv H ad (upd H a o) (ad ++ [some a]) where
  keep := fun b u e _ => Grow.new n b u e
  pre := fun i x e => snoc_pre e
  new := fun b h => by
    rcases List.mem_append.mp h with q | q
    · exact .inl q
    · have e : b = a := by simpa using q
      exact .inr (by rw [e]; exact n)
  there := fun b h => by
    by_cases e : b = a
    · subst e; rw [upd_same]; simp
    · rw [upd_ne e]; exact h
theorem he_new (F : FR p c fr ad σ H) {a : Addr} (n : H a = none) : c.He a = none := by
  cases q : c.He a with
  | none => rfl
  | some o =>
    by_cases hw : a ∈ c.W0
    · obtain ⟨i, e⟩ := mem_at hw
      obtain ⟨o', e', _⟩ := F.track (List.mem_of_getElem? (F.sub i a e))
      rw [n] at e'; cases e'
    · have := F.old a o q hw
      rw [n] at this; cases this
theorem FR.newc (F : FR p c fr ad σ H) {a : Addr} {o : HO} {cl : Cell} (n : H a = none) (q : ∀ ok : Addr → Prop, (∀ b u, okP c ad b → H b = some u → ok b) → CellAt p (upd H a o) ok a cl) : FR p c (fr.newc cl) (ad ++ [some a]) σ (upd H a o) := by
  have m : Mv H ad (upd H a o) (ad ++ [some a]) := mv_new n
  refine ⟨F.len, fun i av e => ?_, by simp [Fr.newc, F.clen], fun i b e => ?_, fun i j b e1 e2 => ?_, fun b u e h => ?_, fun i b e => snoc_pre (F.sub i b e), fun b h => ?_, fun g hg => ⟨(F.gh g hg).1, RepA.mv F m (F.gh g hg).2⟩, m.prs F, F.bs⟩
  · obtain ⟨v, h1, h2⟩ := F.var i av e
    exact ⟨v, h1, RepA.mv F m h2⟩
  · rcases snoc_at e with e | ⟨hi, e⟩
    · obtain ⟨cl', h1, h2⟩ := F.cel i b e
      refine ⟨cl', snoc_pre h1, ?_⟩
      have g : Grow H (upd H a o) := Grow.new n
      cases cl' with
      | lst ds =>
        obtain ⟨xs, h3, hz, h4⟩ := h2
        exact ⟨xs, g _ _ h3, hz, h4.keep (m.kp F)⟩
      | dct tp kvs => exact DctAt.keep (m.kp F) (fun u z => g _ _ z) h2
      | gone => exact h2
    · cases e
      refine ⟨cl, ?_, q _ fun b u h1 h2 => ((m.kp F).l b u h1 h2).1⟩
      rw [Fr.newc, hi, ← F.clen]
      simp
  · rcases snoc_at e1 with z1 | ⟨i1, z1⟩
    · rcases snoc_at e2 with z2 | ⟨i2, z2⟩
      · exact F.nd i j b z1 z2
      · cases z2
        obtain ⟨o', e', _⟩ := F.track (List.mem_of_getElem? z1)
        rw [n] at e'; cases e'
    · cases z1
      rcases snoc_at e2 with z2 | ⟨i2, z2⟩
      · obtain ⟨o', e', _⟩ := F.track (List.mem_of_getElem? z2)
        rw [n] at e'; cases e'
      · omega
  · exact Grow.new n b u (F.old b u e h)
  · rcases List.mem_append.mp h with z | z
    · exact F.adw b z
    · have e : b = a := by simpa using z
      subst e
      exact .inr (he_new F n)
/-- a cell is written -/
@[simp] def Fr.putc (fr : Fr) (i : Nat) (cl : Cell) : Fr := ⟨fr.vars, fr.cells.set i cl, fr.base⟩
theorem FR.putc (F : FR p c fr ad σ H) {i : Nat} {a : Addr} {o : HO} {cl : Cell} (e : ad[i]? = some (some a)) (ht : ∀ b xs, Rd H b (.tup xs) → Rd (upd H a o) b (.tup xs)) (q : CellAt p (upd H a o) (okP c ad) a cl) : FR p c (fr.putc i cl) ad σ (upd H a o) := by
  have hm : some a ∈ ad := List.mem_of_getElem? e
  have kp : Keep H (upd H a o) (okP c ad) (okP c ad) := ⟨fun b u h hb => ⟨h, by
    have ne : b ≠ a := fun z => h.2 (by rw [z]; exact hm)
    rw [upd_ne ne]; exact hb⟩, ht⟩
  have hne : ∀ j b, ad[j]? = some (some b) → j ≠ i → b ≠ a := fun j b hb hj z => hj (F.nd j i a (by rw [← z]; exact hb) e)
  have rep : ∀ {v : V} {av : AV}, RepA p H (okP c ad) ad v av → RepA p (upd H a o) (okP c ad) ad v av := fun {v av} h2 => by
    cases av with
    | dat y => exact Rep.keep kp h2
    | dct tp kvs =>
      obtain ⟨b, rfl, hb, d⟩ := h2
      have ne : b ≠ a := fun z => hb.2 (by rw [z]; exact hm)
      exact ⟨b, rfl, hb, d.keep kp fun u z => by rw [upd_ne ne]; exact z⟩
    | cel k => exact h2
    | brd rms cks k =>
      obtain ⟨b, u0, rfl, hb, d, z⟩ := h2
      have ne : b ≠ a := fun z => hb.2 (by rw [z]; exact hm)
      exact ⟨b, u0, rfl, hb, d.keep kp fun u z => by rw [upd_ne ne]; exact z, z⟩
    | scr ns =>
      obtain ⟨hl, b, rfl, z⟩ := h2
      refine ⟨hl, b, rfl, ?_⟩
      rcases z with ⟨u, z⟩ | z
      · refine .inl ⟨u, ?_⟩
        have ne : b ≠ a := fun w => by
          obtain ⟨cl', _, y⟩ := F.cel i a e
          rw [w] at z
          cases cl' with
          | lst ds =>
            obtain ⟨xs, e3, _⟩ := y
            rw [z] at e3; cases e3
          | dct tp kvs =>
            cases tp with
            | false =>
              obtain ⟨ks, e3, _⟩ := y
              rw [z] at e3; cases e3
            | true =>
              obtain ⟨es, ep, xs, e3, _⟩ := y
              rw [z] at e3
              have r' : HO.frz u (.lst (ns.map V.int)) = dTh a es ep := Option.some.inj e3
              cases r'
          | gone => exact y.elim
        rw [upd_ne ne]; exact z
      · exact .inr z
  refine ⟨F.len, fun j av e2 => ?_, by simp [Fr.putc, F.clen], fun j b e2 => ?_, F.nd, fun b u h1 h2 => ?_, F.sub, F.adw, fun g hg => ⟨(F.gh g hg).1, rep (F.gh g hg).2⟩, fun b hb => ⟨(F.pr b hb).1, by
    obtain ⟨n, vs, z⟩ := F.pr b hb
    exact ⟨vs, by rw [upd_ne fun w => n (by rw [w]; exact hm)]; exact z⟩⟩, F.bs⟩
  · obtain ⟨v, h1, h2⟩ := F.var j av e2
    exact ⟨v, h1, rep h2⟩
  · by_cases hj : j = i
    · subst hj
      rw [e] at e2; cases e2
      obtain ⟨cl', h1, _⟩ := F.cel j a e
      have hi : j < fr.cells.length := by
        rcases Nat.lt_or_ge j fr.cells.length with z | z
        · exact z
        · rw [List.getElem?_eq_none z] at h1; cases h1
      exact ⟨cl, List.getElem?_set_self hi, q⟩
    · obtain ⟨cl', h1, h2⟩ := F.cel j b e2
      have ne := hne j b e2 hj
      refine ⟨cl', by rw [Fr.putc, List.getElem?_set_ne (Ne.symm hj)]; exact h1, ?_⟩
      cases cl' with
      | lst ds =>
        obtain ⟨xs, h3, hz, h4⟩ := h2
        exact ⟨xs, by rw [upd_ne ne]; exact h3, hz, h4.keep kp⟩
      | dct tp kvs => exact DctAt.keep kp (fun u z => by rw [upd_ne ne]; exact z) h2
      | gone => exact h2
  · by_cases hb : b = a
    · subst hb
      rcases F.adw b hm with z | z
      · exact absurd z h2
      · rw [z] at h1; cases h1
    · rw [upd_ne hb]; exact F.old b u h1 h2
/-- a cell is given up: its names hold what it held -/
@[simp] def frzv (i : Nat) (a : AV) : Option AV → Option AV
  | some (.cel j) => if j = i then some a else some (.cel j)
  | some (.brd rooms cooks j) => if j = i then none else some (.brd rooms cooks j)
  | v => v
@[simp] def celv : Cell → Option AV
  | .lst xs => some (.dat (.list xs))
  | .dct tp kvs => some (.dct tp kvs)
  | .gone => none
/-- only a cell of one's own -/
@[simp] def Fr.frz (fr : Fr) (i : Nat) : Option Fr := if fr.base ≤ i then (match fr.cells[i]? with
  | some cl => (match celv cl with
    | some a => some ⟨fr.vars.map (frzv i a), fr.cells.set i .gone, fr.base⟩
    | none => none)
  | none => none) else none
end
theorem RepL.mono {K : PySem.W.Frag} {H : Hp} {ok ok' : Addr → Prop} (h : ∀ a, ok a → ok' a) {vs : List V} {xs : List PyData} (r : RepL K H ok vs xs) : RepL K H ok' vs xs := r.keep ⟨fun a o ha e => ⟨h a ha, e⟩, fun _ _ z => z⟩
theorem Rep.mono {K : PySem.W.Frag} {H : Hp} {ok ok' : Addr → Prop} (h : ∀ a, ok a → ok' a) {v : V} {y : PyData} (r : Rep K H ok v y) : Rep K H ok' v y := r.keep ⟨fun a o ha e => ⟨h a ha, e⟩, fun _ _ z => z⟩
theorem DctAt.mono {p : Par} {H : Hp} {ok ok' : Addr → Prop} (h : ∀ a, ok a → ok' a) {a : Addr} {tp : Bool} {kvs : List (PyData × PyData)} (r : DctAt p H ok a tp kvs) : DctAt p H ok' a tp kvs := r.keep ⟨fun a o ha e => ⟨h a ha, e⟩, fun _ _ z => z⟩ fun _ z => z
section
variable {p : Par} {c : Ent} {fr fr2 : Fr} {ad : List (Option Addr)} {σ : L2.St} {H H' : Hp}
theorem DctR.mono {p : Par} {H : Hp} {ok ok' : Addr → Prop} (h : ∀ a, ok a → ok' a) {a : Addr} {tp : Bool} {kvs : List (PyData × PyData)} (r : DctR p H ok a tp kvs) : DctR p H ok' a tp kvs := by
  rcases r with d | ⟨z, o, ks, e, r⟩
  · exact .inl (d.mono h)
  · exact .inr ⟨z, o, ks, e, Paired.mapP r fun _ _ ⟨h1, h2, h3⟩ => ⟨h1, h2, h3.mono h⟩⟩
theorem BrdAt.mono {p : Par} {H : Hp} {ok ok' : Addr → Prop} (h : ∀ a, ok a → ok' a) {a u : Addr} {rooms : List (PyData × PyData)} {cooks : PyData} (d : BrdAt p H ok a u rooms cooks) : BrdAt p H ok' a u rooms cooks := by
  obtain ⟨dx, r, vc, e, h1, h2, h3⟩ := d
  exact ⟨dx, r, vc, e, h r h1, h2.mono h, h3.mono h⟩
theorem FR.frz (F : FR p c fr ad σ H) {i : Nat} (h : fr.frz i = some fr2) : ∃ ad', FR p c fr2 ad' σ H := by
  unfold Fr.frz at h
  split at h
  rotate_left
  · cases h
  rename_i hk
  rw [F.bs] at hk
  cases q1 : fr.cells[i]? with
  | none => rw [q1] at h; cases h
  | some cl =>
    rw [q1] at h
    simp only at h
    cases q2 : celv cl with
    | none => rw [q2] at h; cases h
    | some av =>
      rw [q2] at h
      cases h
      refine ⟨ad.set i none, ?_⟩
      have hi : i < ad.length := by
        rw [← F.clen]
        rcases Nat.lt_or_ge i fr.cells.length with z | z
        · exact z
        · rw [List.getElem?_eq_none z] at q1; cases q1
      have mono : ∀ b, okP c ad b → okP c (ad.set i none) b := fun b hb => ⟨hb.1, fun hm => by
        obtain ⟨j, e⟩ := mem_at hm
        by_cases hj : i = j
        · subst hj; rw [List.getElem?_set_self hi] at e; cases e
        · rw [List.getElem?_set_ne hj] at e; exact hb.2 (List.mem_of_getElem? e)⟩
      have okA : ∀ a, ad[i]? = some (some a) → okP c (ad.set i none) a := fun a ha => by
        refine ⟨⟨.inl ?_, fun hp => (F.pr a hp).1 (List.mem_of_getElem? ha)⟩, fun hm => ?_⟩
        · rcases F.adw a (List.mem_of_getElem? ha) with z | z
          · obtain ⟨j, e⟩ := mem_at z
            have := F.nd j i a (F.sub j a e) ha
            have hj : j < c.W0.length := by
              rcases Nat.lt_or_ge j c.W0.length with y | y
              · exact y
              · rw [List.getElem?_eq_none y] at e; cases e
            omega
          · exact z
        · obtain ⟨j, e⟩ := mem_at hm
          by_cases hj : i = j
          · subst hj; rw [List.getElem?_set_self hi] at e; cases e
          · rw [List.getElem?_set_ne hj] at e; exact hj (F.nd i j a ha e)
      have repA : ∀ a, ad[i]? = some (some a) → RepA p H (okP c (ad.set i none)) (ad.set i none) (.ref a) av := fun a ha => by
        obtain ⟨cl', h1, h2⟩ := F.cel i a ha
        rw [q1] at h1; cases h1
        cases cl with
        | lst ds =>
          cases q2
          obtain ⟨xs, h3, hz, h4⟩ := h2
          exact .lst (okA a ha) h3 hz (h4.mono mono)
        | dct tp kvs =>
          cases q2
          exact ⟨a, rfl, okA a ha, (h2.mono mono).r⟩
        | gone => exact h2.elim
      refine ⟨by simp [F.len], fun j bv e => ?_, by simp [F.clen], fun j b e => ?_, fun j k b e1 e2 => ?_, F.old, fun j b e => ?_, fun b hm => ?_, fun g hg => ⟨(F.gh g hg).1, ?_⟩, fun b hb => ⟨fun hm => ?_, (F.pr b hb).2⟩, F.bs⟩
      · rw [List.getElem?_map] at e
        cases q3 : fr.vars[j]? with
        | none => rw [q3] at e; cases e
        | some w =>
          rw [q3] at e
          have e' : frzv i av w = some bv := Option.some.inj e
          cases w with
          | none => cases e'
          | some w =>
            obtain ⟨v, h1, h2⟩ := F.var j w q3
            refine ⟨v, h1, ?_⟩
            cases w with
            | dat y => cases e'; exact Rep.mono mono h2
            | dct tp kvs =>
              cases e'
              obtain ⟨b, hb, h3, h4⟩ := h2
              exact ⟨b, hb, mono b h3, h4.mono mono⟩
            | scr ns => cases e'; exact h2
            | brd rms cks k =>
              obtain ⟨b, u0, rfl, hb, d, h3⟩ := h2
              have e'' : (if k = i then none else some (AV.brd rms cks k)) = some bv := e'
              split at e''
              · cases e''
              · rename_i hki
                cases e''
                exact ⟨b, u0, rfl, mono b hb, d.mono mono, by rw [List.getElem?_set_ne (Ne.symm hki)]; exact h3⟩
            | cel k =>
              obtain ⟨b, rfl, h3⟩ := h2
              have e'' : (if k = i then some av else some (.cel k)) = some bv := e'
              split at e''
              · rename_i hki
                subst hki
                cases e''
                exact repA b h3
              · rename_i hki
                cases e''
                exact ⟨b, rfl, by rw [List.getElem?_set_ne (Ne.symm hki)]; exact h3⟩
      · by_cases hj : i = j
        · subst hj; rw [List.getElem?_set_self hi] at e; cases e
        · rw [List.getElem?_set_ne hj] at e
          obtain ⟨cl', h1, h2⟩ := F.cel j b e
          refine ⟨cl', by rw [List.getElem?_set_ne hj]; exact h1, ?_⟩
          cases cl' with
          | lst ds =>
            obtain ⟨xs, h3, hz, h4⟩ := h2
            exact ⟨xs, h3, hz, h4.mono mono⟩
          | dct tp kvs => exact DctAt.mono mono h2
          | gone => exact h2
      · by_cases hj : i = j
        · subst hj; rw [List.getElem?_set_self hi] at e1; cases e1
        · by_cases hk : i = k
          · subst hk; rw [List.getElem?_set_self hi] at e2; cases e2
          · rw [List.getElem?_set_ne hj] at e1
            rw [List.getElem?_set_ne hk] at e2
            exact F.nd j k b e1 e2
      · have hj : i ≠ j := fun z => by
          subst z
          rw [List.getElem?_eq_none hk] at e; cases e
        rw [List.getElem?_set_ne hj]; exact F.sub j b e
      · obtain ⟨j, e⟩ := mem_at hm
        by_cases hj : i = j
        · subst hj; rw [List.getElem?_set_self hi] at e; cases e
        · rw [List.getElem?_set_ne hj] at e; exact F.adw b (List.mem_of_getElem? e)
      · obtain ⟨h1, h2⟩ := F.gh g hg
        revert h1 h2
        cases g.2 with
        | dat y => exact fun _ h2 => Rep.mono mono h2
        | dct tp kvs => exact fun _ ⟨b, hb, h3, h4⟩ => ⟨b, hb, mono b h3, h4.mono mono⟩
        | cel k => exact fun h1 _ => nomatch h1
        | scr ns => exact fun h1 _ => nomatch h1
        | brd _ _ _ => exact fun h1 _ => nomatch h1
      · obtain ⟨j, e⟩ := mem_at hm
        by_cases hj : i = j
        · subst hj; rw [List.getElem?_set_self hi] at e; cases e
        · rw [List.getElem?_set_ne hj] at e; exact (F.pr b hb).1 (List.mem_of_getElem? e)
end
end G
/-! GG: statements, defs, calls of defs. -/
namespace G
open PySem PySem.Spec PyProof.Rows L2

/-! ### combinators -/
@[simp] def sRet (f : Fr → Res AV) : Fr → SRes := fun fr => (f fr).toS fun a fr1 => .ret a fr1
@[simp] def sRetN : Fr → SRes := fun fr => .ret (.dat .none) fr
@[simp] def sDrop (f : Fr → Res AV) : Fr → SRes := fun fr => (f fr).toS fun _ fr1 => .nx fr1
@[simp] def sSet (i : Nat) (f : Fr → Res AV) : Fr → SRes := fun fr => (f fr).toS fun a fr1 => .nx (fr1.setv i (some a))
@[simp] def sNx : Fr → SRes := fun fr => .nx fr
@[simp] def sCt : Fr → SRes := fun fr => .ct fr
@[simp] def sSeq (f g : Fr → SRes) : Fr → SRes := fun fr => (f fr).then g
@[simp] def sIf (t : Fr → Res Bool) (f g : Fr → SRes) : Fr → SRes := fun fr => (t fr).toS fun b fr1 => if b = true then f fr1 else g fr1
/-- slots are forgotten first -/
@[simp] def sKill (is : List Nat) (f : Fr → SRes) : Fr → SRes := fun fr => f (fr.kill is)
/-- a cell of one's own is given up first (k: how many were handed in) -/
def sFrz (i : Nat) (f : Fr → SRes) : Fr → SRes := fun fr => match fr.vars[i]? with
  | some (some (.cel j)) => (match fr.frz j with
    | some fr1 => f fr1
    | none => .err)
  | _ => .err
/-- name = [..], to be written -/
def sNewL (i : Nat) (gs : Fr → Res (List AV)) : Fr → SRes := fun fr => (gs fr).toS fun as fr1 => match dats as with
  | some xs => .nx ((fr1.newc (.lst xs)).setv i (some (.cel fr1.cells.length)))
  | none => .err
@[simp] def sApp (i : Nat) (f : Fr → Res AV) : Fr → SRes := fun fr => match fr.vars[i]? with
  | some (some (.cel k)) => (match fr.cells[k]? with
    | some (.lst _) => (f fr).toS fun a fr1 => (match a, fr1.cells[k]? with
      | .dat y, some (.lst xs) => if xs.length < 1000000 then .nx (fr1.putc k (.lst (xs ++ [y]))) else .err
      | _, _ => .err)
    | _ => .err)
  | _ => .err
/-- name[..] = ..: the value first -/
@[simp] def sSetIx (i : Nat) (fi fv : Fr → Res AV) : Fr → SRes := fun fr => (fv fr).toS fun a fr1 => match fr1.vars[i]? with
  | some (some (.cel k)) => (fi fr1).toS fun b fr2 => (match a, b, fr2.cells[k]? with
    | .dat y, .dat (.int n), some (.lst xs) => (match ixN xs.length n with
      | some j => .nx (fr2.putc k (.lst (xs.set j y)))
      | none => .err)
    | _, _, _ => .err)
  | _ => .err

section
variable {α : Type} {p : Par} {x : XW} {c : Ent} {ad : List (Option Addr)} {σ : L2.St} {H : Hp} {r : Res α} {k : α → Fr → SRes} {D : Ends}
theorem SOut.of {fr : Fr} (F : FR p c fr ad σ H) (o : SOut p x c (r.toS k) D) : Out p x c ad σ H r fun a fr1 _ _ => SOut p x c (k a fr1) D := by
  cases r with
  | ok a fr' => exact fun ad' H' F' m => o
  | exc cl fs fr' => exact fun ad' H' C d F' m h => o ad' σ H' C d F' h
  | err => exact o
end

section
variable {X : Cx} {x : XW} {a b d : Expr} {f g h : Fr → Res AV} {pos : Pos} {st : Stmt} {s t u : Fr → SRes}
theorem as_ret (ha : AE X x a f) : AS X x (.Return (some a) pos) (sRet f) :=
  (ps_ret ha).imp fun D σ H ⟨c, fr, ad, F, o⟩ => ⟨c, fr, ad, F, (SOut.of F o).mono fun av fr1 ad1 H1 F1 m1 o1 v rv => o1 ad1 σ H1 v F1 rv⟩
theorem as_retN : AS X x (.Return none pos) sRetN :=
  ps_retN.imp fun D σ H ⟨c, fr, ad, F, o⟩ => o ad σ H _ F .non
theorem as_drop (ha : AE X x a f) (hs : swapsWith a none pos.line X.env = pure false := by rfl) : AS X x (.Expr a pos) (sDrop f) :=
  (ps_expr ha hs).imp fun D σ H ⟨c, fr, ad, F, o⟩ => ⟨c, fr, ad, F, (SOut.of F o).mono fun av fr1 ad1 H1 F1 m1 o1 v rv => o1 ad1 σ H1 F1⟩
theorem as_set {i : Nat} {n : Str} {p1 : Pos} (hN : X.N.Nodup) (hi : X.N[i]? = some n) (hx : Loc X.env.scope n) (ha : AE X x a f) (hs : swapsWith a (some (.Name n p1)) pos.line X.env = pure false := by rfl)
    (hf : X.fn n = true ∨ X.env.scope.names.lookup n = some .local := by first | exact .inl rfl | exact .inr rfl | assumption) : AS X x (.Assign [.Name n p1] a pos) (sSet i f) :=
  (ps_set hN hi hx ha hs hf).imp fun D σ H ⟨c, fr, ad, F, o⟩ => ⟨c, fr, ad, F, (SOut.of F o).mono fun av fr1 ad1 H1 F1 m1 o1 v rv => o1 ad1 _ H1 (F1.setv rv)⟩
theorem as_nil : ASs X x [] sNx := pss_nil.imp fun D σ H ⟨c, fr, ad, F, o⟩ => o ad σ H F
theorem as_pass : AS X x (.Pass pos) sNx := ps_pass.imp fun D σ H ⟨c, fr, ad, F, o⟩ => o ad σ H F
theorem as_cont : AS X x (.Continue pos) sCt := ps_continue.imp fun D σ H ⟨c, fr, ad, F, o⟩ => o ad σ H F
theorem SOut.seq {p : Par} {c : Ent} {fr : Fr} {D : Ends} (o : SOut p x c ((s fr).then t) D) : SOut p x c (s fr) { D with nx := tS p x t D } := by
  cases q : s fr with
  | nx fr1 => rw [q] at o; exact fun ad' σ' H' F => ⟨c, fr1, ad', F, o⟩
  | ret a fr1 => rw [q] at o; exact o
  | bk fr1 => rw [q] at o; exact o
  | ct fr1 => rw [q] at o; exact o
  | exc cl fs fr1 => rw [q] at o; exact o
  | err => rw [q] at o; exact o
theorem as_cons {rest : List Stmt} (h1 : AS X x st s) (h2 : ASs X x rest t) : ASs X x (st :: rest) (sSeq s t) :=
  (pss_cons h1 h2).imp fun D σ H ⟨c, fr, ad, F, o⟩ => ⟨c, fr, ad, F, SOut.seq o⟩
theorem as_one (h1 : AS X x st s) : ASs X x [st] s := pss_one h1
theorem as_if {tt : Fr → Res Bool} {as bs : List Stmt} (hc : AT X x a tt) (ha : ASs X x as s) (hb : ASs X x bs t) : AS X x (.If a as bs pos) (sIf tt s t) := by
  refine (ps_if hc ha hb).imp fun D σ H ⟨c, fr, ad, F, o⟩ => ⟨c, fr, ad, F, (SOut.of F o).mono fun k fr1 ad1 H1 F1 m1 o1 => ?_⟩
  cases k with
  | true => exact ⟨c, fr1, ad1, F1, o1⟩
  | false => exact ⟨c, fr1, ad1, F1, o1⟩
theorem as_kill (is : List Nat) (h1 : AS X x st s) : AS X x st (sKill is s) := h1.imp fun D σ H ⟨c, fr, ad, F, o⟩ => ⟨c, _, ad, F.kill is, o⟩
theorem ass_kill (is : List Nat) {ss : List Stmt} (h1 : ASs X x ss s) : ASs X x ss (sKill is s) := L2.PSs.imp h1 fun D σ H ⟨c, fr, ad, F, o⟩ => ⟨c, _, ad, F.kill is, o⟩
/-- k: the number of the cells handed in; it is seen by the slots' kinds at the entry, so it is asked here -/
def KAll (k : Nat) (s : Fr → SRes) : Fr → SRes := s
theorem as_newL {i : Nat} {n : Str} {p1 p2 : Pos} {es : List Expr} {gs : Fr → Res (List AV)} (hN : X.N.Nodup) (hi : X.N[i]? = some n) (hx : Loc X.env.scope n) (ha : AA X x es gs) (hl : es.length ≤ 1000 := by decide) (hn : ∀ fr as fr', gs fr = .ok as fr' → as.length = es.length)
    (hs : swapsWith (.List es p2) (some (.Name n p1)) pos.line X.env = pure false := by rfl) (hf : X.fn n = true ∨ X.env.scope.names.lookup n = some .local := by first | exact .inl rfl | exact .inr rfl | assumption) : AS X x (.Assign [.Name n p1] (.List es p2) pos) (sNewL i gs) := by
  refine (ps_set hN hi hx (pe_lst ha) hs hf).imp fun D σ H ⟨c, fr, ad, F, o⟩ => ⟨c, fr, ad, F, ?_⟩
  have o4 := SOut.of F o
  cases q : gs fr with
  | ok as fr1 =>
    rw [q] at o4
    intro ad1 H1 F1 m1 vs rvs
    have o5 := o4 ad1 H1 F1 m1
    have hlen := hn fr as fr1 q
    cases q2 : dats as with
    | none => simp only [q2] at o5; exact o5.elim
    | some xs =>
      simp only [q2] at o5
      have rl := dats_rep rvs q2
      have e1 : vs.length = as.length := Paired.length rvs
      have e2 := rl.length
      have z : vs.length ≤ sizeLine := by rw [sizeLine_eq]; omega
      refine ⟨z, fun p hp => ?_⟩
      have F2 := F1.newc (o := .lst vs) (cl := .lst xs) hp fun ok hok => ⟨vs, upd_same, by rw [← e2]; exact z, rl.keep ⟨fun b u h1 h2 => ⟨hok b u h1 h2, Grow.new hp b u h2⟩, (Grow.new hp).keep (ok := okP c ad1) |>.t⟩⟩
      exact o5 _ _ _ (F2.setv (a := .cel fr1.cells.length) ⟨p, rfl, by rw [F1.clen]; simp⟩)
  | exc cl fs fr1 => rw [q] at o4; exact o4
  | err => rw [q] at o4; exact o4
theorem cell_lst {p : Par} {c : Ent} {fr : Fr} {ad : List (Option Addr)} {σ : L2.St} {H : Hp} (F : FR p c fr ad σ H) {k : Nat} {l : Addr} {xs : List PyData} (e : ad[k]? = some (some l)) (q : fr.cells[k]? = some (.lst xs)) : ∃ vs, H l = some (.lst vs) ∧ xs.length ≤ sizeLine ∧ RepL p.K H (okP c ad) vs xs := by
  obtain ⟨cl, h1, h2⟩ := F.cel k l e
  rw [q] at h1; cases h1
  exact h2
/-- a list that is written: what else is said stands -/
theorem wr_t {H : Hp} {l : Addr} {vs : List V} {o : HO} (e : H l = some (.lst vs)) : ∀ b xs, Rd H b (.tup xs) → Rd (upd H l o) b (.tup xs) := fun b xs r => by
  have ne : b ≠ l := fun z => by
    subst z
    rcases r with r | ⟨_, r⟩ <;> (rw [e] at r; cases r)
  rcases r with r | ⟨u, r⟩
  · exact .inl (by rw [upd_ne ne]; exact r)
  · exact .inr ⟨u, by rw [upd_ne ne]; exact r⟩
theorem wr_k {c : Ent} {ad : List (Option Addr)} {H : Hp} {l : Addr} {vs : List V} {o : HO} (m : some l ∈ ad) (e : H l = some (.lst vs)) : Keep H (upd H l o) (okP c ad) (okP c ad) :=
  ⟨fun b u h hb => ⟨h, by rw [upd_ne fun z => h.2 (by rw [z]; exact m)]; exact hb⟩, wr_t e⟩
theorem as_app {i : Nat} {n : Str} {p1 p2 p3 : Pos} (hN : X.N[i]? = some n) (hv : Vis X.env.scope n) (ha : AE X x a f) (hd : (n == ("__debug__" : Str)) = false := by decide) (hcd : (n == ("__classdict__" : Str)) = false := by decide)
    (hst : starEach [a] X.env = (false, eval a X.env) :: starEach [] X.env := by rfl)
    (hfew : ((backTo p3 (starEach [a] X.env)).all (fun z => !z.1) && (backToKw p3 (keywordEach [] X.env)).all (fun z => z.1.isSome) && decide ([a].length + ([] : List Keyword).length + (if ([] : List Keyword).isEmpty then 0 else 1) < 30)) = true := by rfl)
    (hline : (p2.endLine == p3.line) = true := by rfl)
    (hs : swapsWith (.Call (.Attribute (.Name n p1) "append" p2) [a] [] p3) none pos.line X.env = pure false := by rfl) : AS X x (.Expr (.Call (.Attribute (.Name n p1) "append" p2) [a] [] p3) pos) (sApp i f) := by
  refine (ps_expr (pe_bm PySem.F.plainAttrs_list PySem.F.slot_list_append PySem.F.type_list_append mt_append (pe_var hN hv hd hcd) (pa_cons ha pa_nil hst) rfl hfew hline hst) hs).imp fun D σ H ⟨c, fr, ad, F, o⟩ => ?_
  unfold sApp at o
  cases q : fr.vars[i]? with
  | none => rw [q] at o; exact o.elim
  | some w =>
    rw [q] at o
    cases w with
    | none => exact o.elim
    | some av =>
      obtain ⟨v, h1, h2⟩ := F.var i av q
      cases av with
      | cel k =>
        obtain ⟨l, rfl, hl⟩ := h2
        obtain ⟨cl, hc, hcl⟩ := F.cel k l hl
        simp only [hc] at o
        cases cl with
        | dct tp kvs => exact o.elim
        | gone => exact o.elim
        | lst ds =>
          simp only at o
          obtain ⟨xs0, h0, _⟩ := hcl
          refine ⟨_, h1, .inl ⟨rfl, xs0, SqL.of h0⟩, c, fr, ad, F, ?_⟩
          refine (SOut.of F o).mono fun av fr1 ad1 H1 F1 m1 o1 w rw_ => ?_
          cases av with
          | dat y =>
            cases q2 : fr1.cells[k]? with
            | none => simp only [q2] at o1; exact o1.elim
            | some cl1 =>
              cases cl1 with
              | lst xs =>
                simp only [q2] at o1
                split at o1
                · rename_i hz
                  have e1 := m1.pre k _ hl
                  obtain ⟨vs, h3, hz3, h4⟩ := cell_lst F1 e1 q2
                  have e2 := h4.length
                  refine ⟨l, vs, w, rfl, rfl, h3, by rw [sizeLine_eq]; omega, ?_⟩
                  have m := List.mem_of_getElem? e1
                  exact o1 _ _ _ (F1.putc e1 (wr_t h3) ⟨_, upd_same, by rw [List.length_append]; exact sz6 (by simp; omega), RepL.append (h4.keep (wr_k m h3)) (.cons (Rep.keep (wr_k m h3) rw_) .nil)⟩)
                · exact o1.elim
              | _ => simp only [q2] at o1; exact o1.elim
          | _ => exact o1.elim
      | _ => exact o.elim
end
end G
/-! GH: what a def says, its proof by its body, its call. -/
namespace G
open PySem PySem.Spec PyProof.Rows L2

inductive CRes where
  | ok (r : AV) (cs : List Cell)
  | exc (c : Str) (fs : List (Str × PyData)) (cs : List Cell)
  | err
abbrev AFun := List AV → List Cell → CRes
def okF (H : Hp) (S : Addr → Prop) (W0 : List Addr) (a : Addr) : Prop := (H a = none ∨ S a) ∧ a ∉ W0
structure PostF (p : Par) (H : Hp) (S : Addr → Prop) (W0 : List Addr) (cs : List Cell) (H' : Hp) : Prop where
  keep : ∀ b o, H b = some o → b ∉ W0 → H' b = some o
  there : ∀ b, H b ≠ none → H' b ≠ none
  cel : ∀ (i : Nat) (a : Addr), W0[i]? = some a → ∃ cl, cs[i]? = some cl ∧ CellAt p H' (okF H S W0) a cl
abbrev ok0 (S : Addr → Prop) (W0 : List Addr) (a : Addr) : Prop := S a ∧ a ∉ W0
abbrev CExc := Str → List (Str × PyData) → Hp → Value → Option Addr → Prop
def spF (p : Par) (C : CExc) (m : AFun) (n : Nat) : Sp := fun vs H Q E => vs.length = n ∧ ∃ (S : Addr → Prop) (W0 : List Addr) (as : List AV) (cells : List Cell),
  RepAs p H (ok0 S W0) (W0.map some) vs as ∧ W0.Nodup ∧ cells.length = W0.length ∧ (∀ (i : Nat) (a : Addr), W0[i]? = some a → ∃ cl, cells[i]? = some cl ∧ CellAt p H (ok0 S W0) a cl) ∧
  match m as cells with
  | .ok r cs => ∀ v H', PostF p H S W0 cs H' → RepA p H' (okF H S W0) [] v r → Q v H'
  | .exc cl fs cs => ∀ Cv d H', PostF p H S W0 cs H' → C cl fs H' Cv d → E Cv d H'
  | .err => False

/-- what a body hands back -/
@[simp] def outv (k : Nat) (fr : Fr) : AV → Option AV
  | .dat y => some (.dat y)
  | .dct tp kvs => some (.dct tp kvs)
  | .cel i => if k ≤ i then (match fr.cells[i]? with
    | some cl => celv cl
    | none => none) else none
  | .scr _ => none
  | .brd _ _ _ => none
@[simp] def finish (k : Nat) : SRes → CRes
  | .nx f => .ok (.dat .none) (f.cells.take k)
  | .ret a f => match outv k f a with
    | some r => .ok r (f.cells.take k)
    | none => .err
  | .exc c fs f => .exc c fs (f.cells.take k)
  | _ => .err
@[simp] def mkFun (N n : Nat) (b : Fr → SRes) : AFun := fun as cells => if as.length = n then finish cells.length (b ⟨as.map some ++ List.replicate (N - n) none, cells, cells.length⟩) else .err

section
variable {p : Par} {c : Ent} {fr : Fr} {ad : List (Option Addr)} {σ : L2.St} {H H' : Hp}
theorem take_at {α : Type} {l : List α} {k i : Nat} {y : α} (hk : i < k) (h : l[i]? = some y) : (l.take k)[i]? = some y := by
  rw [List.getElem?_take, if_pos hk]; exact h
theorem lt_of_at {α : Type} {l : List α} {i : Nat} {y : α} (h : l[i]? = some y) : i < l.length := by
  rcases Nat.lt_or_ge i l.length with q | q
  · exact q
  · rw [List.getElem?_eq_none q] at h; cases h
theorem okP_okF {S : Addr → Prop} {W0 : List Addr} (F : FR p ⟨H, S, W0, [], []⟩ fr ad σ H') : ∀ a, okP ⟨H, S, W0, [], []⟩ ad a → okF H S W0 a := fun a h => ⟨h.1.1, fun m => by
  obtain ⟨i, e⟩ := mem_at m
  exact h.2 (List.mem_of_getElem? (F.sub i a e))⟩
theorem FR.post {S : Addr → Prop} {W0 : List Addr} (F : FR p ⟨H, S, W0, [], []⟩ fr ad σ H') : PostF p H S W0 (fr.cells.take W0.length) H' where
  keep := fun b o e n => F.old b o e n
  there := fun b h => by
    by_cases hb : b ∈ W0
    · obtain ⟨i, e⟩ := mem_at hb
      obtain ⟨o, q, _⟩ := F.track (List.mem_of_getElem? (F.sub i b e))
      rw [q]; simp
    · cases q : H b with
      | none => exact absurd q h
      | some o => rw [F.old b o q hb]; simp
  cel := fun i a e => by
    obtain ⟨cl, h1, h2⟩ := F.cel i a (F.sub i a e)
    refine ⟨cl, take_at (lt_of_at e) h1, ?_⟩
    cases cl with
    | lst ds =>
      obtain ⟨xs, h3, hz, h4⟩ := h2
      exact ⟨xs, h3, hz, h4.mono (okP_okF F)⟩
    | dct tp kvs => exact DctAt.mono (okP_okF F) h2
    | gone => exact h2
theorem FR.out {S : Addr → Prop} {W0 : List Addr} (F : FR p ⟨H, S, W0, [], []⟩ fr ad σ H') {v : V} {a r : AV} (h : RepA p H' (okP ⟨H, S, W0, [], []⟩ ad) ad v a) (e : outv W0.length fr a = some r) : RepA p H' (okF H S W0) [] v r := by
  cases a with
  | dat y => cases e; exact Rep.mono (okP_okF F) h
  | dct tp kvs =>
    cases e
    obtain ⟨b, e, h1, h2⟩ := h
    exact ⟨b, e, okP_okF F b h1, h2.mono (okP_okF F)⟩
  | scr ns => cases e
  | brd _ _ _ => cases e
  | cel i =>
    unfold outv at e
    simp only at e
    split at e
    · rename_i hk
      obtain ⟨b, rfl, hb⟩ := h
      obtain ⟨cl, h1, h2⟩ := F.cel i b hb
      rw [h1] at e
      have okb : okF H S W0 b := by
        have n : b ∉ W0 := fun m => by
          obtain ⟨j, e2⟩ := mem_at m
          have := F.nd j i b (F.sub j b e2) hb
          have := lt_of_at e2
          omega
        refine ⟨.inl ?_, n⟩
        rcases F.adw b (List.mem_of_getElem? hb) with z | z
        · exact absurd z n
        · exact z
      cases cl with
      | lst ds =>
        cases e
        obtain ⟨xs, h3, hz, h4⟩ := h2
        exact .lst okb h3 hz (h4.mono (okP_okF F))
      | dct tp kvs => cases e; exact ⟨b, rfl, okb, (h2.mono (okP_okF F)).r⟩
      | gone => cases e
    · cases e
end

/-- a def's body, from its arguments -/
theorem body_g {P : Program} {w : World} {K : PySem.W.Frag} {N ps : List Str} {C : CExc} {b : Fr → SRes} {vs : List V} {H : Hp} {Q : VK} {E : XK} (hsp : spF ⟨P, w, K⟩ C (mkFun N.length ps.length b) ps.length vs H Q E) :
    tS ⟨P, w, K⟩ ⟨fun cl d _ H' => E cl d H', C⟩ b { nx := fun _ H' => Q .non H', rt := Q } (L2.start N vs) H := by
  obtain ⟨hlen, S0, W0, as, cells, ra, nd, cl, hc, hm⟩ := hsp
  have e1 : vs.length = as.length := Paired.length ra
  unfold mkFun at hm
  rw [if_pos (by omega)] at hm
  have mono : ∀ a, ok0 S0 W0 a → okP ⟨H, S0, W0, [], []⟩ (W0.map some) a := fun a h => ⟨⟨.inr h.1, fun z => nomatch z⟩, fun m => by
    obtain ⟨y, hy, e⟩ := List.mem_map.mp m
    cases e; exact h.2 hy⟩
  refine ⟨⟨H, S0, W0, [], []⟩, ⟨as.map some ++ List.replicate (N.length - ps.length) none, cells, cells.length⟩, W0.map some, ⟨?_, fun i av e => ?_, by simp [cl], fun i a e => ?_, fun i j a h1 h2 => ?_, fun b o e _ => e, fun i a e => by rw [List.getElem?_map, e]; rfl, fun a h => ?_, (fun q hq => nomatch hq), (fun q hq => nomatch hq), cl⟩, ?_⟩
  · simp only [L2.start, List.length_append, List.length_map, List.length_replicate]
    omega
  · have hi : i < as.length := by
      rcases Nat.lt_or_ge i as.length with q | q
      · exact q
      · rw [List.getElem?_append_right (by simpa using q)] at e
        rw [List.getElem?_replicate] at e
        split at e <;> cases e
    rw [List.getElem?_append_left (by simpa using hi), List.getElem?_map] at e
    have e' : as[i]? = some av := by
      cases q : as[i]? with
      | none => rw [q] at e; cases e
      | some y => rw [q] at e; cases e; rfl
    have get : ∀ {vs : List V} {as : List AV} {i : Nat} {av : AV}, RepAs ⟨P, w, K⟩ H (ok0 S0 W0) (W0.map some) vs as → as[i]? = some av → ∃ v, vs[i]? = some v ∧ RepA ⟨P, w, K⟩ H (ok0 S0 W0) (W0.map some) v av := by
      intro vs as i av h
      induction h generalizing i with
      | nil => intro e; simp at e
      | cons r _ ih =>
        intro e
        cases i with
        | zero => simp at e; subst e; exact ⟨_, rfl, r⟩
        | succ j =>
          obtain ⟨v, q1, q2⟩ := ih (i := j) (by simpa using e)
          exact ⟨v, by simpa using q1, q2⟩
    obtain ⟨v, h1, h2⟩ := get ra e'
    refine ⟨v, ?_, ?_⟩
    · show (vs.map some ++ List.replicate (N.length - vs.length) none)[i]? = _
      rw [List.getElem?_append_left (by simp; omega), List.getElem?_map, h1]; rfl
    · cases av with
      | dat y => exact Rep.mono mono h2
      | dct tp kvs =>
        obtain ⟨b, q1, q2, q3⟩ := h2
        exact ⟨b, q1, mono b q2, q3.mono mono⟩
      | cel j => exact h2
      | scr ns => exact h2
      | brd rms cks j =>
        obtain ⟨b, u, q1, q2, q3, q4⟩ := h2
        exact ⟨b, u, q1, mono b q2, q3.mono mono, q4⟩
  · rw [List.getElem?_map] at e
    cases q : W0[i]? with
    | none => rw [q] at e; cases e
    | some y =>
      rw [q] at e
      cases e
      obtain ⟨cl', h1, h2⟩ := hc i a q
      refine ⟨cl', h1, ?_⟩
      cases cl' with
      | lst ds =>
        obtain ⟨xs, h3, hz, h4⟩ := h2
        exact ⟨xs, h3, hz, h4.mono mono⟩
      | dct tp kvs => exact DctAt.mono mono h2
      | gone => exact h2
  · rw [List.getElem?_map] at h1 h2
    cases q1 : W0[i]? with
    | none => rw [q1] at h1; cases h1
    | some y =>
      cases q2 : W0[j]? with
      | none => rw [q2] at h2; cases h2
      | some z =>
        rw [q1] at h1; rw [q2] at h2
        cases h1; cases h2
        exact (List.getElem?_inj (lt_of_at q1) nd).mp (q1.trans q2.symm)
  · obtain ⟨y, hy, e⟩ := List.mem_map.mp h
    cases e
    exact .inl hy
  · cases q : b ⟨as.map some ++ List.replicate (N.length - ps.length) none, cells, cells.length⟩ with
    | nx fr1 =>
      rw [q] at hm
      intro ad' σ' H' F1
      have hm' : ∀ v H', PostF ⟨P, w, K⟩ H S0 W0 (fr1.cells.take cells.length) H' → RepA ⟨P, w, K⟩ H' (okF H S0 W0) [] v (.dat .none) → Q v H' := hm
      rw [cl] at hm'
      exact hm' _ H' F1.post .non
    | ret a fr1 =>
      rw [q] at hm
      intro ad' σ' H' v F1 rv
      unfold finish at hm
      simp only at hm
      rw [cl] at hm
      cases q2 : outv W0.length fr1 a with
      | none => rw [q2] at hm; exact hm.elim
      | some r =>
        rw [q2] at hm
        exact hm v H' F1.post (F1.out rv q2)
    | bk fr1 => rw [q] at hm; exact hm.elim
    | ct fr1 => rw [q] at hm; exact hm.elim
    | exc cl' fs fr1 =>
      rw [q] at hm
      intro ad' σ' H' Cv d F1 hx
      have hm' : ∀ Cv d H', PostF ⟨P, w, K⟩ H S0 W0 (fr1.cells.take cells.length) H' → C cl' fs H' Cv d → E Cv d H' := hm
      rw [cl] at hm'
      exact hm' Cv d H' F1.post hx
    | err => rw [q] at hm; exact hm.elim
/-- THE RULE of a def -/
theorem fn_g {P : Program} {w : World} {K : PySem.W.Frag} {mg : Str → Option Value} {base : Heap} {CX : CXT} {n qual : Str} {params : Arguments} {body : List Stmt} {scope : Scope} {dvs : List V} {kws : List (Str × V)} {f : Addr} {fd : FuncData} {N ps : List Str} {k : Nat} {C : CExc} {b : Fr → SRes}
    (F : FunD K n qual params body scope dvs kws f fd) (S : FnScope N ps scope)
    (hb : ∀ (cdv : Value) (A : Around) (outer : List Env) (s : Shared) (H : Hp) (E : XK), Room k (A.deeper (envOfC qual scope s.heap.objs.size f cdv)) →
      ASs (cxOf CX P w K mg base N qual scope f cdv A outer s H E) ⟨fun cl d _ H' => E cl d H', C⟩ body b) :
    FnOk P w K mg base CX (k + 1) f fd ps (spF ⟨P, w, K⟩ C (mkFun N.length ps.length b) ps.length) := by
  exact F.ok S (fun vs H Q E h => h.1) fun cdv A outer s H vs Q E hr hsp => ⟨_, hb cdv A outer s H E hr, body_g hsp⟩
end G
/-! GI: calls of defs. -/
namespace G
open PySem PySem.Spec PyProof.Rows L2

@[simp] def celsOf : List AV → List Nat
  | [] => []
  | .cel i :: r => i :: celsOf r
  | .brd _ _ i :: r => i :: celsOf r
  | _ :: r => celsOf r
/-- the arguments as the callee has them: its cells in the order of the arguments -/
@[simp] def relab : Nat → List AV → List AV
  | _, [] => []
  | n, .cel _ :: r => .cel n :: relab (n + 1) r
  | n, .brd rooms cooks _ :: r => .brd rooms cooks n :: relab (n + 1) r
  | n, a :: r => a :: relab n r
@[simp] def noScr : List AV → Bool
  | [] => true
  | .scr _ :: _ => false
  | _ :: r => noScr r
@[simp] def getAll (cs : List Cell) : List Nat → Option (List Cell)
  | [] => some []
  | i :: is => match cs[i]?, getAll cs is with
    | some .gone, _ => none
    | some cl, some r => some (cl :: r)
    | _, _ => none
@[simp] def putAll (cs : List Cell) : List Nat → List Cell → List Cell
  | i :: is, cl :: r => (putAll cs is r).set i cl
  | _, _ => cs
@[simp] def callM (m : AFun) (as : List AV) : Fr → Res AV := fun fr => if (decide (celsOf as).Nodup && noScr as) = true then (match getAll fr.cells (celsOf as) with
  | some cs => (match m (relab 0 as) cs with
    | .ok r cs' => .ok r ⟨fr.vars, putAll fr.cells (celsOf as) cs', fr.base⟩
    | .exc c fs cs' => .exc c fs ⟨fr.vars, putAll fr.cells (celsOf as) cs', fr.base⟩
    | .err => .err)
  | none => .err) else .err
@[simp] def xCall (m : AFun) (gs : Fr → Res (List AV)) : Fr → Res AV := fun fr => (gs fr).bind fun as fr1 => callM m as fr1

/-- the addresses of the cells -/
def celAds (ad : List (Option Addr)) (as : List AV) : List Addr := (celsOf as).map fun i => (ad[i]?.join).getD 0
section
variable {p : Par} {c : Ent} {fr : Fr} {ad : List (Option Addr)} {σ : L2.St} {H H' : Hp}
theorem cel_in {ok : Addr → Prop} : ∀ {vs : List V} {as : List AV}, RepAs p H ok ad vs as → ∀ i ∈ celsOf as, ∃ a, ad[i]? = some (some a)
  | _, _, .nil => fun i h => by cases h
  | v :: vs, .cel k :: as, .cons ⟨a, e, h⟩ rs => fun i hi => by
    rcases List.mem_cons.mp hi with z | z
    · exact ⟨a, by rw [z]; exact h⟩
    · exact cel_in rs i z
  | v :: vs, .brd rms cks k :: as, .cons ⟨a, u, e, h1, h2, h⟩ rs => fun i hi => by
    rcases List.mem_cons.mp hi with z | z
    · exact ⟨u, by rw [z]; exact h⟩
    · exact cel_in rs i z
  | v :: vs, .dat y :: as, .cons r rs => fun i hi => cel_in rs i hi
  | v :: vs, .dct tp kvs :: as, .cons r rs => fun i hi => cel_in rs i hi
  | v :: vs, .scr ns :: as, .cons r rs => fun i hi => cel_in rs i hi
theorem celAds_at {ok : Addr → Prop} {vs : List V} {as : List AV} (r : RepAs p H ok ad vs as) : (celAds ad as).length = (celsOf as).length ∧ ∀ (j i : Nat), (celsOf as)[j]? = some i → ∃ a, (celAds ad as)[j]? = some a ∧ ad[i]? = some (some a) := by
  refine ⟨List.length_map .., fun j i e => ?_⟩
  obtain ⟨a, h⟩ := cel_in r i (List.mem_of_getElem? e)
  refine ⟨a, ?_, h⟩
  unfold celAds
  rw [List.getElem?_map, e]
  simp [h]
theorem relab_rep {ok ok' : Addr → Prop} {W : List Addr} (mono : ∀ a, ok a → ok' a) : ∀ {vs : List V} {as : List AV} {n : Nat}, RepAs p H ok ad vs as → noScr as = true → (∀ (j : Nat) (a : Addr), (celAds ad as)[j]? = some a → W[n + j]? = some a) → RepAs p H ok' (W.map some) vs (relab n as)
  | _, _, _, .nil, _, _ => .nil
  | v :: vs, .cel k :: as, n, .cons ⟨a, e, h⟩ rs, hs, hw => by
    subst e
    refine .cons ⟨a, rfl, by rw [List.getElem?_map, show W[n]? = some a from hw 0 a (by simp [celAds, h])]; rfl⟩ (relab_rep mono rs hs fun j b e => ?_)
    have := hw (j + 1) b (by simpa [celAds] using e)
    rw [show n + 1 + j = n + (j + 1) by omega]
    exact this
  | v :: vs, .brd rms cks k :: as, n, .cons ⟨a, u, e, h1, h2, h⟩ rs, hs, hw => by
    subst e
    refine .cons ⟨a, u, rfl, mono a h1, h2.mono mono, by rw [List.getElem?_map, show W[n]? = some u from hw 0 u (by simp [celAds, h])]; rfl⟩ (relab_rep mono rs hs fun j b e => ?_)
    have := hw (j + 1) b (by simpa [celAds] using e)
    rw [show n + 1 + j = n + (j + 1) by omega]
    exact this
  | v :: vs, .dat y :: as, n, .cons r rs, hs, hw => .cons (Rep.mono mono r) (relab_rep mono rs hs fun j b e => hw j b e)
  | v :: vs, .dct tp kvs :: as, n, .cons ⟨b, e, h1, h2⟩ rs, hs, hw => .cons ⟨b, e, mono b h1, h2.mono mono⟩ (relab_rep mono rs hs fun j b2 e2 => hw j b2 e2)
  | v :: vs, .scr ns :: as, n, .cons r rs, hs, hw => by cases hs
theorem getAll_at {cs : List Cell} : ∀ {is : List Nat} {r : List Cell}, getAll cs is = some r → r.length = is.length ∧ ∀ (j i : Nat), is[j]? = some i → ∃ cl, cs[i]? = some cl ∧ r[j]? = some cl
  | [], r, e => by cases e; exact ⟨rfl, fun j i h => by simp at h⟩
  | i :: is, r, e => by
    unfold getAll at e
    cases q1 : cs[i]? with
    | none => rw [q1] at e; cases e
    | some cl =>
      cases q2 : getAll cs is with
      | none => rw [q1, q2] at e; cases cl <;> cases e
      | some r' =>
        rw [q1, q2] at e
        obtain ⟨h1, h2⟩ := getAll_at q2
        have fin : r = cl :: r' := by cases cl <;> first | (cases e; rfl) | cases e
        subst fin
        refine ⟨by simp [h1], fun j k h => ?_⟩
        cases j with
        | zero => simp at h; subst h; exact ⟨cl, q1, rfl⟩
        | succ j => exact h2 j k (by simpa using h)
theorem putAll_len {cs : List Cell} : ∀ {is : List Nat} {r : List Cell}, (putAll cs is r).length = cs.length
  | [], _ => rfl
  | _ :: _, [] => rfl
  | i :: is, cl :: r => by rw [putAll, List.length_set, putAll_len]
theorem putAll_out {cs : List Cell} {k : Nat} : ∀ {is : List Nat} {r : List Cell}, k ∉ is → (putAll cs is r)[k]? = cs[k]?
  | [], _, _ => rfl
  | _ :: _, [], _ => rfl
  | i :: is, cl :: r, h => by
    rw [putAll, List.getElem?_set_ne (by intro e; exact h (by simp [e]))]
    exact putAll_out fun m => h (List.mem_cons_of_mem _ m)
theorem putAll_in {cs : List Cell} : ∀ {is : List Nat} {r : List Cell} {j i : Nat} {cl : Cell}, is.Nodup → is[j]? = some i → r[j]? = some cl → i < cs.length → (putAll cs is r)[i]? = some cl
  | [], _, _, _, _, _, h, _, _ => by simp at h
  | _ :: _, [], _, _, _, _, _, h, _ => by simp at h
  | k :: is, cl' :: r, j, i, cl, nd, h1, h2, hl => by
    cases j with
    | zero =>
      simp at h1 h2
      subst h1 h2
      rw [putAll, List.getElem?_set_self (by rw [putAll_len]; exact hl)]
    | succ j =>
      have h1' : is[j]? = some i := by simpa using h1
      have ne : k ≠ i := fun e => (List.nodup_cons.mp nd).1 (by rw [e]; exact List.mem_of_getElem? h1')
      rw [putAll, List.getElem?_set_ne ne]
      exact putAll_in (List.nodup_cons.mp nd).2 h1' (by simpa using h2) hl

/-- behind a call -/
theorem call_end {S : Addr → Prop} {W : List Addr} {ids : List Nat} {cs' : List Cell} (F : FR p c fr ad σ H) (nd : ids.Nodup) (hW : ∀ (j i : Nat), ids[j]? = some i → ∃ a, W[j]? = some a ∧ ad[i]? = some (some a)) (hl : W.length = ids.length)
    (hS : ∀ a, S a → a ∉ W → okP c ad a) (P : PostF p H S W cs' H') : FR p c ⟨fr.vars, putAll fr.cells ids cs', fr.base⟩ ad σ H' ∧ Mv H ad H' ad ∧ ∀ a, okF H S W a → okP c ad a := by
  have wad : ∀ a, a ∈ W → ∃ j i, ids[j]? = some i ∧ W[j]? = some a ∧ ad[i]? = some (some a) := fun a m => by
    obtain ⟨j, e⟩ := mem_at m
    have hj : j < ids.length := by rw [← hl]; exact lt_of_at e
    obtain ⟨b, h1, h2⟩ := hW j ids[j] (by rw [List.getElem?_eq_getElem hj])
    rw [e] at h1; cases h1
    exact ⟨j, ids[j], by rw [List.getElem?_eq_getElem hj], e, h2⟩
  have m : Mv H ad H' ad := ⟨fun b o e n => P.keep b o e fun hm => by
    obtain ⟨j, i, _, _, h⟩ := wad b hm
    exact n (List.mem_of_getElem? h), fun _ _ e => e, fun _ h => .inl h, P.there⟩
  have okk : ∀ a, okF H S W a → okP c ad a := fun a ⟨h1, h2⟩ => by
    rcases h1 with h1 | h1
    · exact okP_new F h1
    · exact hS a h1 h2
  refine ⟨⟨F.len, fun i av e => ?_, by rw [putAll_len]; exact F.clen, fun i a e => ?_, F.nd, fun b o e n => ?_, F.sub, F.adw, fun q hq => ⟨(F.gh q hq).1, RepA.mv F m (F.gh q hq).2⟩, m.prs F, F.bs⟩, m, okk⟩
  · obtain ⟨v, h1, h2⟩ := F.var i av e
    exact ⟨v, h1, RepA.mv F m h2⟩
  · by_cases hm : i ∈ ids
    · obtain ⟨j, hj⟩ := mem_at hm
      obtain ⟨b, h1, h2⟩ := hW j i hj
      rw [e] at h2; cases h2
      obtain ⟨cl, h3, h4⟩ := P.cel j a h1
      refine ⟨cl, putAll_in nd hj h3 (by rw [F.clen]; exact lt_of_at e), ?_⟩
      cases cl with
      | lst ds =>
        obtain ⟨xs, q1, q2, q3⟩ := h4
        exact ⟨xs, q1, q2, q3.mono okk⟩
      | dct tp kvs => exact DctAt.mono okk h4
      | gone => exact h4
    · obtain ⟨cl, h1, h2⟩ := F.cel i a e
      have na : a ∉ W := fun hw => by
        obtain ⟨j, k, h3, _, h4⟩ := wad a hw
        have := F.nd k i a h4 e
        subst this
        exact hm (List.mem_of_getElem? h3)
      refine ⟨cl, by rw [putAll_out hm]; exact h1, ?_⟩
      have kp : ∀ o, H a = some o → H' a = some o := fun o z => P.keep a o z na
      cases cl with
      | lst ds =>
        obtain ⟨xs, q1, q2, q3⟩ := h2
        exact ⟨xs, kp _ q1, q2, q3.keep (m.kp F)⟩
      | dct tp kvs => exact DctAt.keep (m.kp F) kp h2
      | gone => exact h2
  · refine P.keep b o (F.old b o e n) fun hw => ?_
    obtain ⟨j, k, _, _, h4⟩ := wad b hw
    rcases F.adw b (List.mem_of_getElem? h4) with z | z
    · exact n z
    · rw [z] at e; cases e
end

section
variable {X : Cx} {x : XW} {a : Expr} {f g h : Fr → Res AV} {pos : Pos}
theorem tE_call {m : AFun} {n : Nat} {gs : Fr → Res (List AV)} {σ : L2.St} {H : Hp} {Q : VK} (hn : ∀ fr as fr', gs fr = .ok as fr' → as.length = n) (h : tE (pX X) x (xCall m gs) σ H Q) : tA (pX X) x gs σ H fun vs H1 => spF (pX X) x.C m n vs H1 Q fun C d H' => x.W C d σ H' := by
  obtain ⟨c, fr, ad, F, o⟩ := h
  refine ⟨c, fr, ad, F, ?_⟩
  have o2 := Out.bind F o
  cases qg : gs fr with
  | exc cl fs fr1 => rw [qg] at o2; exact o2
  | err => rw [qg] at o2; exact o2
  | ok as fr1 =>
    rw [qg] at o2
    intro ad1 H1 F1 m1 vs rvs
    have o1 : Out (pX X) x c ad1 σ H1 (callM m as fr1) _ := o2 ad1 H1 F1 m1
    refine ⟨by rw [Paired.length rvs]; exact hn fr as fr1 qg, ?_⟩
    unfold callM at o1
    split at o1
    rotate_left
    · exact o1.elim
    rename_i hcond
    obtain ⟨hnd, hsc⟩ := Bool.and_eq_true_iff.mp hcond
    have nd := of_decide_eq_true hnd
    cases q1 : getAll fr1.cells (celsOf as) with
    | none => rw [q1] at o1; exact o1.elim
    | some cs =>
      rw [q1] at o1
      simp only at o1
      obtain ⟨lW, hW⟩ := celAds_at rvs
      obtain ⟨lc, hcs⟩ := getAll_at q1
      have inW : ∀ b, b ∈ celAds ad1 as → some b ∈ ad1 := fun b hb => by
        obtain ⟨j, e⟩ := mem_at hb
        have hj : j < (celsOf as).length := by rw [← lW]; exact lt_of_at e
        obtain ⟨b', h1, h2⟩ := hW j (celsOf as)[j] (by rw [List.getElem?_eq_getElem hj])
        rw [e] at h1; cases h1
        exact List.mem_of_getElem? h2
      have mono : ∀ b, okP c ad1 b → ok0 (okP c ad1) (celAds ad1 as) b := fun b hb => ⟨hb, fun z => hb.2 (inW b z)⟩
      have hS : ∀ b, okP c ad1 b → b ∉ celAds ad1 as → okP c ad1 b := fun b hb _ => hb
      have ndW : (celAds ad1 as).Nodup := by
        unfold List.Nodup
        rw [List.pairwise_iff_getElem]
        intro j k hj hk hjk e
        have hk' : k < (celsOf as).length := by rw [← lW]; exact hk
        have hj' : j < (celsOf as).length := by omega
        obtain ⟨b1, h1, h2⟩ := hW j (celsOf as)[j] (by rw [List.getElem?_eq_getElem hj'])
        obtain ⟨b2, h3, h4⟩ := hW k (celsOf as)[k] (by rw [List.getElem?_eq_getElem hk'])
        rw [List.getElem?_eq_getElem hj] at h1
        rw [List.getElem?_eq_getElem hk] at h3
        have eb : b1 = b2 := by rw [← Option.some.inj h1, ← Option.some.inj h3]; exact e
        subst eb
        have := F1.nd _ _ _ h2 h4
        have := (List.getElem_inj nd).mp this
        omega
      refine ⟨okP c ad1, celAds ad1 as, relab 0 as, cs, relab_rep mono rvs hsc fun j b e => by rw [Nat.zero_add]; exact e, ndW, by rw [lc, lW], fun i b e => ?_, ?_⟩
      · have hi : i < (celsOf as).length := by rw [← lW]; exact lt_of_at e
        obtain ⟨b', h1, h2⟩ := hW i (celsOf as)[i] (by rw [List.getElem?_eq_getElem hi])
        rw [e] at h1; cases h1
        obtain ⟨cl, h3, h4⟩ := hcs i (celsOf as)[i] (by rw [List.getElem?_eq_getElem hi])
        obtain ⟨cl', h5, h6⟩ := F1.cel _ b h2
        rw [h3] at h5; cases h5
        refine ⟨cl, h4, ?_⟩
        cases cl with
        | lst ds =>
          obtain ⟨xs, z1, z2, z3⟩ := h6
          exact ⟨xs, z1, z2, z3.mono mono⟩
        | dct tp kvs => exact DctAt.mono mono h6
        | gone => exact h6
      · cases q2 : m (relab 0 as) cs with
        | ok r cs' =>
          rw [q2] at o1
          intro v H2 P rv
          obtain ⟨F2, m2, okk⟩ := call_end F1 nd hW lW hS P
          refine o1 ad1 H2 F2 m2 v ?_
          cases r with
          | dat y => exact Rep.mono okk rv
          | dct tp kvs =>
            obtain ⟨b, z1, z2, z3⟩ := rv
            exact ⟨b, z1, okk b z2, z3.mono okk⟩
          | cel i => obtain ⟨b, _, z⟩ := rv; simp at z
          | scr ns => exact rv
          | brd _ _ _ => obtain ⟨b, u, _, _, _, z⟩ := rv; simp at z
        | exc cl fs cs' =>
          rw [q2] at o1
          intro Cv d H2 P hx
          obtain ⟨F2, m2, okk⟩ := call_end F1 nd hW lW hS P
          exact o1 ad1 H2 Cv d F2 m2 hx
        | err => rw [q2] at o1; exact o1.elim
/-- a call of a def: facts about it -/
structure DefF (P : Program) (w : World) (K : PySem.W.Frag) (mg : Str → Option Value) (base : Heap) (CX : CXT) (C : CExc) (k : Nat) (n : Str) (np : Nat) (m : AFun) : Prop where
  ex : ∃ (f : Addr) (fd : FuncData) (ps : List Str), FnOk P w K mg base CX k f fd ps (spF ⟨P, w, K⟩ C m np) ∧ mg n = some (.ref f) ∧ PySem.W.keepIn K (.ref f) = true ∧ Binds K fd ps []
theorem ae_call {CX : CXT} {k j : Nat} {n : Str} {m : AFun} {es : List Expr} {gs : Fr → Res (List AV)} {p1 : Pos} {np : Nat} (D : DefF X.prog X.w X.K X.mg X.base CX x.C k n np m) (hr : Room j X.A) (hk : k ≤ j) (hx : ∀ σ, PassesAt CX X σ fun C d H' => x.W C d σ H') (hg : Gl X n) (ha : AA X x (a :: es) gs) (hn : ∀ fr as fr', gs fr = .ok as fr' → as.length = np)
    (hdb : (n == ("__debug__" : Str)) = false := by decide) (he : starEach (a :: es) X.env = (false, eval a X.env) :: starEach es X.env := by rfl) (hpl : (backTo pos (starEach es X.env)).any (·.1) = false := by rfl) :
    AE X x (.Call (.Name n p1) (a :: es) [] pos) (xCall m gs) := by
  obtain ⟨f, fd, ps, F, hm, kp, b⟩ := D.ex
  refine (pe_callSD F (hr.mono hk) hg hm kp b .nil (E := fun σ C d H' => x.W C d σ H') hx ha hdb he hpl).imp fun σ H Q h => ?_
  have z := tE_call hn h
  unfold tCallSD
  simpa only [List.append_nil] using z
theorem pass_0 {W : WX} : ∀ σ, PassesAt CX0 X σ fun C d H' => W C d σ H' := fun _ _ _ _ _ _ _ z => z.elim
end
end G
/-! GJ: targets, what is walked, for, while. -/
namespace G
open PySem PySem.Spec PyProof.Rows L2

/-! ### targets -/
abbrev Tg := PyData → Fr → Option Fr
@[simp] def tName (i : Nat) : Tg := fun y fr => some (fr.setv i (some (.dat y)))
@[simp] def setAll : List Nat → List PyData → Fr → Option Fr
  | [], [], fr => some fr
  | i :: is, y :: ys, fr => setAll is ys (fr.setv i (some (.dat y)))
  | _, _, _ => none
@[simp] def tNames (is : List Nat) : Tg := fun y fr => match y with
  | .tuple ys => setAll is ys fr
  | _ => none
/-- the slots that a target writes -/
def OnlyAt (is : List Nat) (σ σ' : L2.St) : Prop := ∀ vs : List Nat, (∀ i ∈ is, i ∈ vs) → wipe σ' vs = wipe σ vs
def tG (p : Par) (is : List Nat) (g : Tg) : TG := fun v σ H Q => ∃ c fr ad y fr', FR p c fr ad σ H ∧ Rep p.K H (okP c ad) v y ∧ g y fr = some fr' ∧ ∀ σ', FR p c fr' ad σ' H → OnlyAt is σ σ' → Q σ' H
abbrev AG (X : Cx) (tg : Expr) (is : List Nat) (g : Tg) : Prop := PG X tg (tG (pX X) is g)
theorem _root_.L2.PG.imp {X : Cx} {e : Expr} {t t' : TG} (h : PG X e t) (hi : ∀ v σ H Q, t' v σ H Q → t v σ H Q) : PG X e t' := ⟨fun pins s σ H v u Q I r q => h.run pins s σ H v u Q I r (hi v σ H Q q)⟩
theorem wipe_set {σ : L2.St} {i : Nat} {x : Option V} : ∀ {vs : List Nat}, i ∈ vs → wipe (σ.set i x) vs = wipe σ vs
  | [], h => by simp at h
  | v :: vs, h => by
    unfold wipe
    by_cases hv : i ∈ vs
    · rw [wipe_set hv]
    · have e : i = v := by
        rcases List.mem_cons.mp h with e | e
        · exact e
        · exact absurd e hv
      subst e
      have step : ∀ {vs : List Nat}, i ∉ vs → wipe (σ.set i x) vs = (wipe σ vs).set i x := by
        intro vs
        induction vs with
        | nil => intro _; rfl
        | cons w ws ih =>
          intro hn
          simp only [List.mem_cons, not_or] at hn
          unfold wipe
          rw [ih hn.2, List.set_comm _ _ (Ne.symm hn.1)]
      rw [step hv, List.set_set]
theorem OnlyAt.set {σ : L2.St} {i : Nat} {x : Option V} {is : List Nat} (h : i ∈ is) : OnlyAt is σ (σ.set i x) := fun vs hv => wipe_set (hv i h)
section
variable {X : Cx} {pos : Pos}
theorem ag_name {i : Nat} {n : Str} (hN : X.N.Nodup) (hi : X.N[i]? = some n) (hx : Loc X.env.scope n) (hf : X.fn n = true ∨ X.env.scope.names.lookup n = some .local := by first | exact .inl rfl | exact .inr rfl | assumption) : AG X (.Name n pos) [i] (tName i) :=
  (pg_name hN hi hx hf).imp fun v σ H Q ⟨c, fr, ad, y, fr', F, r, e, q⟩ => by
    cases e
    exact q _ (F.setv (a := .dat y) r) (OnlyAt.set (by simp))
/-- several names, one after another -/
def tGs (p : Par) (is : List Nat) : TGs := fun vs σ H Q => ∃ c fr ad ys fr', FR p c fr ad σ H ∧ RepL p.K H (okP c ad) vs ys ∧ setAll is ys fr = some fr' ∧ ∀ σ', FR p c fr' ad σ' H → OnlyAt is σ σ' → Q σ' H
theorem _root_.L2.PGs.imp {X : Cx} {e : List Expr} {t t' : TGs} (h : PGs X e t) (hi : ∀ v σ H Q, t' v σ H Q → t v σ H Q) : PGs X e t' := ⟨fun pins s σ H v u Q I r q => h.run pins s σ H v u Q I r (hi v σ H Q q)⟩
theorem ags_nil : PGs X [] (tGs (pX X) []) := (pgs_nil).imp fun vs σ H Q ⟨c, fr, ad, ys, fr', F, r, e, q⟩ => by
  cases r with
  | nil => cases e; exact ⟨rfl, q σ F fun _ _ => rfl⟩
  | cons => cases e
theorem ags_cons {n : Str} {p1 : Pos} {es : List Expr} {i : Nat} {is : List Nat} (hN : X.N.Nodup) (hi : X.N[i]? = some n) (hx : Loc X.env.scope n) (hr : PGs X es (tGs (pX X) is)) (hf : X.fn n = true ∨ X.env.scope.names.lookup n = some .local := by first | exact .inl rfl | exact .inr rfl | assumption)
    (hs : (assignEach (.Name n p1 :: es) X.env).map (·.2) = assign (.Name n p1) X.env :: (assignEach es X.env).map (·.2) := by rfl) : PGs X (.Name n p1 :: es) (tGs (pX X) (i :: is)) :=
  (pgs_cons (pg_name hN hi hx hf) hr hs).imp fun vs σ H Q ⟨c, fr, ad, ys, fr', F, r, e, q⟩ => by
    cases r with
    | nil => cases e
    | cons r rs =>
      refine ⟨_, _, rfl, c, _, ad, _, fr', F.setv (a := .dat _) r, rs, e, fun σ' F' oa => q σ' F' fun vs hv => ?_⟩
      rw [oa vs fun j hj => hv j (List.mem_cons_of_mem _ hj)]
      exact wipe_set (hv i (by simp))
theorem ag_tup {es : List Expr} {k : Nat} {is : List Nat} (hc : X.calm = true) (h : PGs X es (tGs (pX X) is)) (hl : is.length = es.length)
    (hn : (assignEach es X.env).length = es.length := by rfl) (hst : (assignEach es X.env).findIdx? (·.1) = none := by rfl) : AG X (.Tuple es k pos) is (tNames is) :=
  (pg_tup hc h hn hst).imp fun v σ H Q ⟨c, fr, ad, y, fr', F, r, e, q⟩ => by
    cases y with
    | tuple ys =>
      obtain ⟨a, xs, rfl, h1, _, h2⟩ := RepB.tuple (.inl r)
      refine ⟨a, xs, rfl, h1, ?_, c, fr, ad, ys, fr', F, h2, e, q⟩
      have len : ∀ {is : List Nat} {ys : List PyData} {fr fr' : Fr}, setAll is ys fr = some fr' → is.length = ys.length := by
        intro is
        induction is with
        | nil => intro ys fr fr' e; cases ys with
          | nil => rfl
          | cons => cases e
        | cons i is ih => intro ys fr fr' e; cases ys with
          | nil => cases e
          | cons y ys => rw [List.length_cons, List.length_cons, ih e]
      rw [h2.length, ← len e, hl]
    | _ => cases e
end

/-! ### what is walked -/
structure Wk (p : Par) (J : It) (qs : List (V × AV)) (items : List PyData) : Prop where
  go : ∀ (ok : Addr → Prop) (H : Hp) (i : Nat) (y : PyData), (∀ q ∈ qs, RepA p H ok [] q.1 q.2) → items[i]? = some y → J.go i H ∧ ∀ v H', J.yld i H v H' → Grow H H' ∧ Rep p.K H' ok v y
  stop : ∀ (ok : Addr → Prop) (H : Hp), (∀ q ∈ qs, RepA p H ok [] q.1 q.2) → J.stop items.length H
def tI (p : Par) (x : XW) (f : Fr → Res (List PyData)) : TI := fun σ H R => ∃ c fr ad, FR p c fr ad σ H ∧ Out p x c ad σ H (f fr) fun items _ ad' H' => ∀ J qs, (∀ q ∈ qs, isDat q.2 = true ∧ RepA p H' (okP c ad') ad' q.1 q.2) → Wk p J qs items → R J H'
abbrev AI (X : Cx) (x : XW) (tg e : Expr) (f : Fr → Res (List PyData)) : Prop := PI X tg e (tI (pX X) x f)
@[simp] def xItems (f : Fr → Res AV) : Fr → Res (List PyData) := fun fr => (f fr).bind fun a fr1 => match a with
  | .dat (.list ys) => .ok ys fr1
  | .dat (.tuple ys) => .ok ys fr1
  | _ => .err
section
variable {X : Cx} {x : XW} {tg e : Expr} {f : Fr → Res AV}
theorem it_tup {pins : List (Addr × Obj)} {σ : L2.St} {H : Hp} {s1 : Shared} {R : It → Hp → Prop} {a : Addr} {xs : List V} (I : Inv X pins σ H s1) (h : SqT X.K H a xs) (q : R (Itt X.K a) H) : wpAny (model X.prog X.w) X.A (pyIter (.ref a)) (PIE X pins σ tg R) X.xe s1 := by
  obtain ⟨its, rv, ht, _⟩ := I.tuple h
  have hn := I.hok.fresh (Nat.le_refl s1.heap.objs.size)
  refine wpAny_pyIter_tuple (show s1.heap.IsTuple a its.toArray from ht) ⟨s1.heap.objs.size, [s1.heap.objs.size], _, _, H, rfl, I.kept (t' := s1.toks) fun b o z => Heap.get?_push_of_some _ z, turn_tuple a _, ⟨_, Heap.get?_push_size _ rfl, rfl, rfl⟩, fun b hb => ?_, q⟩
  cases List.mem_singleton.mp hb
  exact I.fpOk (Nat.le_refl _) hn
theorem it_lst {pins : List (Addr × Obj)} {σ : L2.St} {H : Hp} {s1 : Shared} {R : It → Hp → Prop} {a : Addr} {xs : List V} (I : Inv X pins σ H s1) (h : SqL X.K H a xs) (q : R (Itl X.K a) H) : wpAny (model X.prog X.w) X.A (pyIter (.ref a)) (PIE X pins σ tg R) X.xe s1 := by
  obtain ⟨its, rv, hl, _⟩ := I.list h
  have hn := I.hok.fresh (Nat.le_refl s1.heap.objs.size)
  refine wpAny_pyIter_list hl.isList ⟨s1.heap.objs.size, [s1.heap.objs.size], _, _, H, rfl, I.kept (t' := s1.toks) fun b o z => Heap.get?_push_of_some _ z, turn_list a _, ⟨_, Heap.get?_push_size _ rfl, rfl, rfl⟩, fun b hb => ?_, q⟩
  cases List.mem_singleton.mp hb
  exact I.fpOk (Nat.le_refl _) hn
theorem sqt_det {K : PySem.W.Frag} {H : Hp} {ok : Addr → Prop} {a : Addr} {xs : List V} {ys : List PyData} (r : Rep K H ok (.ref a) (.tuple ys)) : ∃ xs, SqT K H a xs ∧ RepL K H ok xs ys := by
  obtain ⟨b, xs, e, h1, _, h2⟩ := RepB.tuple (.inl r)
  cases e
  exact ⟨xs, h1, h2⟩
theorem wk_lst {p : Par} {a : Addr} {ys : List PyData} : Wk p (Itl p.K a) [(.ref a, .dat (.list ys))] ys where
  go := fun ok H i y hq e => by
    have r : Rep p.K H ok (.ref a) (.list ys) := hq (.ref a, .dat (.list ys)) (by simp)
    obtain ⟨b, xs, z, h1, _, h2⟩ := RepB.list (.inl r)
    cases z
    obtain ⟨v, h3, h4⟩ := h2.get e
    refine ⟨⟨xs, v, h1, h3⟩, fun w H' hy => ?_⟩
    obtain ⟨rfl, hy⟩ := hy
    have h5 := hy xs h1
    rw [h3] at h5; cases h5
    exact ⟨Grow.refl, h4⟩
  stop := fun ok H hq => by
    have r : Rep p.K H ok (.ref a) (.list ys) := hq (.ref a, .dat (.list ys)) (by simp)
    obtain ⟨b, xs, z, h1, _, h2⟩ := RepB.list (.inl r)
    cases z
    exact ⟨xs, h1, by rw [h2.length]; exact Nat.le_refl _⟩
theorem wk_tup {p : Par} {a : Addr} {ys : List PyData} : Wk p (Itt p.K a) [(.ref a, .dat (.tuple ys))] ys where
  go := fun ok H i y hq e => by
    have r : Rep p.K H ok (.ref a) (.tuple ys) := hq (.ref a, .dat (.tuple ys)) (by simp)
    obtain ⟨b, xs, z, h1, _, h2⟩ := RepB.tuple (.inl r)
    cases z
    obtain ⟨v, h3, h4⟩ := h2.get e
    refine ⟨⟨xs, v, h1, h3⟩, fun w H' hy => ?_⟩
    obtain ⟨rfl, hy⟩ := hy
    have h5 := hy xs h1
    rw [h3] at h5; cases h5
    exact ⟨Grow.refl, h4⟩
  stop := fun ok H hq => by
    have r : Rep p.K H ok (.ref a) (.tuple ys) := hq (.ref a, .dat (.tuple ys)) (by simp)
    obtain ⟨b, xs, z, h1, _, h2⟩ := RepB.tuple (.inl r)
    cases z
    exact ⟨xs, h1, by rw [h2.length]; exact Nat.le_refl _⟩
/-- a list or a tuple -/
theorem ai_seq (ha : AE X x e f) : AI X x tg e (xItems f) := by
  refine ⟨fun pins s σ H R I h => ?_⟩
  obtain ⟨c, fr, ad, F, o⟩ := h
  have h2 : tE (pX X) x f σ H fun v H1 => ∃ c fr1 ad1 av, FR (pX X) c fr1 ad1 σ H1 ∧ RepA (pX X) H1 (okP c ad1) ad1 v av ∧ (match av with
      | .dat (.list ys) => ∀ J qs, (∀ q ∈ qs, isDat q.2 = true ∧ RepA (pX X) H1 (okP c ad1) ad1 q.1 q.2) → Wk (pX X) J qs ys → R J H1
      | .dat (.tuple ys) => ∀ J qs, (∀ q ∈ qs, isDat q.2 = true ∧ RepA (pX X) H1 (okP c ad1) ad1 q.1 q.2) → Wk (pX X) J qs ys → R J H1
      | _ => False) := by
    refine ⟨c, fr, ad, F, (Out.bind F o).mono fun av fr1 ad1 H1 F1 m1 o1 v rv => ⟨c, fr1, ad1, av, F1, rv, ?_⟩⟩
    cases av with
    | dat y =>
      cases y with
      | list ys => exact o1 ad1 H1 F1 Mv.refl
      | tuple ys => exact o1 ad1 H1 F1 Mv.refl
      | _ => exact o1.elim
    | _ => exact o1.elim
  refine thn (ha.run pins s σ H _ I h2) fun u s1 hq => ?_
  obtain ⟨v, H1, I1, r1, c1, fr1, ad1, av, F1, rv, q⟩ := hq
  cases av with
  | dat y =>
    cases y with
    | list ys =>
      obtain ⟨a, xs, rfl, h1, _, h3⟩ := RepB.list (.inl rv)
      cases r1
      exact it_lst I1 h1 (q _ [(.ref a, .dat (.list ys))] (fun z hz => by cases List.mem_singleton.mp hz; exact ⟨rfl, rv⟩) wk_lst)
    | tuple ys =>
      obtain ⟨a, xs, rfl, h1, _, h3⟩ := RepB.tuple (.inl rv)
      cases r1
      exact it_tup I1 h1 (q _ [(.ref a, .dat (.tuple ys))] (fun z hz => by cases List.mem_singleton.mp hz; exact ⟨rfl, rv⟩) wk_tup)
    | _ => exact q.elim
  | _ => exact q.elim
end

/-! ### for -/
def forA (g : Tg) (b : Fr → SRes) : List PyData → Fr → SRes
  | [], fr => .nx fr
  | y :: ys, fr => match g y fr with
    | some fr1 => (match b fr1 with
      | .nx f2 => forA g b ys f2
      | .ct f2 => forA g b ys f2
      | .bk f2 => .nx f2
      | r => r)
    | none => .err
@[simp] def sFor (f : Fr → Res (List PyData)) (g : Tg) (b : Fr → SRes) : Fr → SRes := fun fr => (f fr).toS fun ys fr1 => forA g b ys fr1
section
variable {p : Par} {c : Ent} {fr : Fr} {ad : List (Option Addr)} {σ : L2.St} {H : Hp}
abbrev Ent.plus (c : Ent) (qs : List (V × AV)) : Ent := { c with gh := qs ++ c.gh }
theorem FR.plus (F : FR p c fr ad σ H) {qs : List (V × AV)} (h : ∀ q ∈ qs, isDat q.2 = true ∧ RepA p H (okP c ad) ad q.1 q.2) : FR p (c.plus qs) fr ad σ H :=
  ⟨F.len, F.var, F.clen, F.cel, F.nd, F.old, F.sub, F.adw, fun q hq => (List.mem_append.mp hq).elim (h q) (F.gh q), F.pr, F.bs⟩
theorem FR.less {qs : List (V × AV)} (F : FR p (c.plus qs) fr ad σ H) : FR p c fr ad σ H :=
  ⟨F.len, F.var, F.clen, F.cel, F.nd, F.old, F.sub, F.adw, fun q hq => F.gh q (List.mem_append_right _ hq), F.pr, F.bs⟩
theorem FR.ghs {qs : List (V × AV)} (F : FR p (c.plus qs) fr ad σ H) : ∀ q ∈ qs, RepA p H (okP c ad) [] q.1 q.2 := fun q hq => by
  obtain ⟨h1, h2⟩ := F.gh q (List.mem_append_left _ hq)
  revert h1 h2
  cases q.2 with
  | dat y => exact fun _ h => h
  | dct tp kvs => exact fun _ h => h
  | cel i => exact fun h => nomatch h
  | scr ns => exact fun h => nomatch h
  | brd _ _ _ => exact fun h => nomatch h
end
section
variable {X : Cx} {x : XW} {tg e : Expr} {f : Fr → Res (List PyData)} {g : Tg} {b : Fr → SRes} {is : List Nat} {body : List Stmt} {pos : Pos}
theorem as_for (hp : PassesOwn (model X.prog X.w) X.A X.env X.xe) (hc : X.calm = true) (hi : AI X x tg e f) (hg : AG X tg is g) (hb : ASs X x body b)
    (hs : ∀ z, foldedSetIterable e X.env z = pure z := by intro _; rfl) : AS X x (.For tg e body [] pos) (sFor f g b) := by
  refine (ps_for hp hc hi hg hb hs).imp fun D σ H ⟨c, fr, ad, F, o⟩ => ⟨c, fr, ad, F, (SOut.of F o).mono fun ys fr1 ad1 H1 F1 m1 o1 J qs hq wk => ?_⟩
  refine ⟨fun i m σ H => i ≤ ys.length ∧ m = ys.length - i ∧ ∃ fr ad, FR (pX X) (c.plus qs) fr ad σ H ∧ SOut (pX X) x c (forA g b (ys.drop i) fr) D, ⟨ys.length, Nat.zero_le _, by simp, fr1, ad1, F1.plus hq, o1⟩, ?_⟩
  rintro i m σ2 H2 ⟨hi2, rfl, fr2, ad2, F2, o2⟩
  by_cases hlt : i < ys.length
  · right
    have ey : ys[i]? = some ys[i] := by rw [List.getElem?_eq_getElem hlt]
    obtain ⟨h1, h2⟩ := wk.go _ H2 i _ F2.ghs ey
    refine ⟨h1, fun σ' H' => ∃ fr ad, FR (pX X) (c.plus qs) fr ad σ' H' ∧ SOut (pX X) x c (forA g b (ys.drop (i + 1)) fr) D, fun σ' H' h => ⟨ys.length - (i + 1), by omega, hlt, rfl, h⟩, fun v H3 hy => ?_⟩
    obtain ⟨gr, rv⟩ := h2 v H3 hy
    rw [List.drop_eq_getElem_cons hlt] at o2
    unfold forA at o2
    cases q1 : g ys[i] fr2 with
    | none => rw [q1] at o2; exact o2.elim
    | some fr3 =>
      rw [q1] at o2
      simp only at o2
      refine ⟨c.plus qs, fr2, ad2, _, fr3, F2.grow gr, rv, q1, fun σ3 F3 _ => ⟨c.plus qs, fr3, ad2, F3, ?_⟩⟩
      cases q2 : b fr3 with
      | nx f4 => rw [q2] at o2; exact fun ad4 σ4 H4 F4 => ⟨f4, ad4, F4, o2⟩
      | ct f4 => rw [q2] at o2; exact fun ad4 σ4 H4 F4 => ⟨f4, ad4, F4, o2⟩
      | bk f4 => rw [q2] at o2; exact fun ad4 σ4 H4 F4 => o2 ad4 σ4 H4 F4.less
      | ret a f4 => rw [q2] at o2; exact fun ad4 σ4 H4 v4 F4 r4 => o2 ad4 σ4 H4 v4 F4.less r4
      | exc cl fs f4 => rw [q2] at o2; exact fun ad4 σ4 H4 C d F4 hx => o2 ad4 σ4 H4 C d F4.less hx
      | err => rw [q2] at o2; exact o2.elim
  · have e1 : i = ys.length := by omega
    subst e1
    left
    refine ⟨wk.stop _ H2 F2.ghs, ?_⟩
    rw [List.drop_length] at o2
    exact o2 ad2 σ2 H2 F2.less
end

/-! ### while: by a bound of its turns -/
def whA (t : Fr → Res Bool) (b : Fr → SRes) : Nat → Fr → SRes
  | 0, _ => .err
  | n + 1, fr => (t fr).toS fun k fr1 => if k = true then (match b fr1 with
    | .nx f2 => whA t b n f2
    | .ct f2 => whA t b n f2
    | .bk f2 => .nx f2
    | r => r) else .nx fr1
section
variable {X : Cx} {x : XW} {t : Fr → Res Bool} {b : Fr → SRes} {tst : Expr} {body : List Stmt} {pos : Pos}
theorem as_while (m : Fr → Nat) (hp : PassesOwn (model X.prog X.w) X.A X.env X.xe) (hc : AT X x tst t) (hb : ASs X x body b) : AS X x (.While tst body [] pos) (fun fr => whA t b (m fr) fr) := by
  refine (ps_while hp hc hb).imp fun D σ H ⟨c, fr, ad, F, o⟩ => ?_
  refine ⟨fun n σ H => ∃ fr ad, FR (pX X) c fr ad σ H ∧ SOut (pX X) x c (whA t b n fr) D, ⟨m fr, fr, ad, F, o⟩, ?_⟩
  rintro n σ1 H1 ⟨fr1, ad1, F1, o1⟩
  cases n with
  | zero => exact o1.elim
  | succ n =>
    refine ⟨c, fr1, ad1, F1, (SOut.of F1 o1).mono fun k fr2 ad2 H2 F2 m2 o2 => ?_⟩
    cases k with
    | false => exact o2 ad2 σ1 H2 F2
    | true =>
      simp only [if_true] at o2 ⊢
      refine ⟨fun σ' H' => ∃ fr ad, FR (pX X) c fr ad σ' H' ∧ SOut (pX X) x c (whA t b n fr) D, fun σ' H' h => ⟨n, by omega, h⟩, c, fr2, ad2, F2, ?_⟩
      cases q2 : b fr2 with
      | nx f4 => rw [q2] at o2; exact fun ad4 σ4 H4 F4 => ⟨f4, ad4, F4, o2⟩
      | ct f4 => rw [q2] at o2; exact fun ad4 σ4 H4 F4 => ⟨f4, ad4, F4, o2⟩
      | bk f4 => rw [q2] at o2; exact fun ad4 σ4 H4 F4 => o2 ad4 σ4 H4 F4
      | ret a f4 => rw [q2] at o2; exact fun ad4 σ4 H4 v4 F4 r4 => o2 ad4 σ4 H4 v4 F4 r4
      | exc cl fs f4 => rw [q2] at o2; exact fun ad4 σ4 H4 C d F4 hx => o2 ad4 σ4 H4 C d F4 hx
      | err => rw [q2] at o2; exact o2.elim
end
end G
/-! GK: list comprehensions of one clause. -/
namespace G
open PySem PySem.Spec PyProof.Rows L2

/-- the turns of a comprehension: the list so far, the cells -/
def compA (own : List Nat) (g : Tg) (t : Fr → Res Bool) (f : Fr → Res AV) (vars : List (Option AV)) (bs : Nat) : List PyData → List PyData → List Cell → Option (List PyData × List Cell)
  | [], acc, cs => some (acc, cs)
  | y :: ys, acc, cs => match g y ⟨kill own vars, cs, bs⟩ with
    | some fr1 => (match t fr1 with
      | .ok b fr2 => if b = true then (match f fr2 with
        | .ok (.dat z) fr3 => compA own g t f vars bs ys (acc ++ [z]) fr3.cells
        | _ => none) else compA own g t f vars bs ys acc fr2.cells
      | _ => none)
    | none => none
def xComp (own : List Nat) (e : Fr → Res (List PyData)) (g : Tg) (t : Fr → Res Bool) (f : Fr → Res AV) : Fr → Res AV := fun fr => (e fr).bind fun ys fr1 => if ys.length ≤ 1000000 then (match compA own g t f fr1.vars fr1.base ys [] fr1.cells with
  | some (acc, cs) => .ok (.dat (.list acc)) ⟨fr1.vars, cs, fr1.base⟩
  | none => .err) else .err
@[simp] def xYes : Fr → Res Bool := fun fr => .ok true fr

section
variable {p : Par} {c : Ent} {fr : Fr} {ad ad' : List (Option Addr)} {σ σ2 : L2.St} {H H' : Hp}
theorem wipe_at {σ : L2.St} {i : Nat} : ∀ {vs : List Nat}, i ∉ vs → (wipe σ vs)[i]? = σ[i]?
  | [], _ => rfl
  | v :: vs, h => by
    simp only [List.mem_cons, not_or] at h
    unfold wipe
    rw [List.getElem?_set_ne (Ne.symm h.1)]
    exact wipe_at h.2
theorem wipe_sub {σ : L2.St} {vs : List Nat} : ∀ {ws : List Nat}, (∀ i ∈ ws, i ∈ vs) → L2.wipe (L2.wipe σ ws) vs = L2.wipe σ vs
  | [], _ => rfl
  | w :: ws, h => by
    show L2.wipe ((L2.wipe σ ws).set w none) vs = _
    rw [wipe_set (h w (by simp))]
    exact wipe_sub fun i hi => h i (List.mem_cons_of_mem _ hi)
theorem FR.wipe (F : FR p c fr ad σ H) (own : List Nat) : FR p c ⟨G.kill own fr.vars, fr.cells, fr.base⟩ ad (L2.wipe σ own) H :=
  ⟨by rw [kill_len, wipe_length]; exact F.len, fun i av e => by
    obtain ⟨h1, h2⟩ := kill_some e
    obtain ⟨v, h3, h4⟩ := F.var i av h1
    exact ⟨v, by rw [wipe_at h2]; exact h3, h4⟩, F.clen, F.cel, F.nd, F.old, F.sub, F.adw, F.gh, F.pr, F.bs⟩
/-- the names as they were, the cells as they are -/
theorem FR.back (F : FR p c fr ad σ H) (m : Mv H ad H' ad') {fr' : Fr} (F' : FR p c fr' ad' σ2 H') : FR p c ⟨fr.vars, fr'.cells, fr.base⟩ ad' σ H' :=
  ⟨F.len, fun i av e => by
    obtain ⟨v, h1, h2⟩ := F.var i av e
    exact ⟨v, h1, RepA.mv F m h2⟩, F'.clen, F'.cel, F'.nd, F'.old, F'.sub, F'.adw, F'.gh, F'.pr, F.bs⟩
abbrev Ent.hold (c : Ent) (D : Addr) : Ent := { c with prot := D :: c.prot }
theorem okP_hold {D : Addr} : ∀ a, okP (c.hold D) ad a → okP c ad a := fun a h => ⟨⟨h.1.1, fun z => h.1.2 (List.mem_cons_of_mem _ z)⟩, h.2⟩
theorem RepA.mono {ok ok' : Addr → Prop} (h : ∀ a, ok a → ok' a) {v : V} : ∀ {av : AV}, RepA p H ok ad v av → RepA p H ok' ad v av
  | .dat y, r => Rep.mono h r
  | .dct tp kvs, ⟨b, e, h1, h2⟩ => ⟨b, e, h b h1, h2.mono h⟩
  | .cel i, r => r
  | .scr ns, r => r
  | .brd _ _ _, ⟨b, u, e, h1, h2, h3⟩ => ⟨b, u, e, h b h1, h2.mono h, h3⟩
theorem CellAt.mono {ok ok' : Addr → Prop} (h : ∀ a, ok a → ok' a) {a : Addr} : ∀ {cl : Cell}, CellAt p H ok a cl → CellAt p H ok' a cl
  | .lst ds, ⟨xs, h1, h2, h3⟩ => ⟨xs, h1, h2, h3.mono h⟩
  | .dct tp kvs, r => DctAt.mono h r
  | .gone, r => r.elim
theorem FR.unhold {D : Addr} (F : FR p (c.hold D) fr ad σ H) : FR p c fr ad σ H :=
  ⟨F.len, fun i av e => by
    obtain ⟨v, h1, h2⟩ := F.var i av e
    exact ⟨v, h1, RepA.mono okP_hold h2⟩, F.clen, fun i a e => by
    obtain ⟨cl, h1, h2⟩ := F.cel i a e
    exact ⟨cl, h1, CellAt.mono okP_hold h2⟩, F.nd, F.old, F.sub, F.adw, fun q hq => ⟨(F.gh q hq).1, RepA.mono okP_hold (F.gh q hq).2⟩, fun a ha => F.pr a (List.mem_cons_of_mem _ ha), F.bs⟩
/-- a new list, protected -/
theorem FR.hold (F : FR p c fr ad σ H) {D : Addr} {vs : List V} (n : H D = none) : FR p (c.hold D) fr ad σ (upd H D (.lst vs)) := by
  have gr : Grow H (upd H D (.lst vs)) := Grow.new n
  have kp : Keep H (upd H D (.lst vs)) (okP c ad) (okP (c.hold D) ad) := ⟨fun a o h e => ⟨⟨⟨h.1.1, fun z => by
    rcases List.mem_cons.mp z with z | z
    · subst z; rw [n] at e; cases e
    · exact h.1.2 z⟩, h.2⟩, gr a o e⟩, (gr.keep (ok := okP c ad)).t⟩
  have nD : some D ∉ ad := fun m => by
    obtain ⟨o, e, _⟩ := F.track m
    rw [n] at e; cases e
  have rep : ∀ {v : V} {av : AV}, RepA p H (okP c ad) ad v av → RepA p (upd H D (.lst vs)) (okP (c.hold D) ad) ad v av := fun {v av} r => by
    cases av with
    | dat y => exact Rep.keep kp r
    | dct tp kvs =>
      obtain ⟨b, e, h1, h2⟩ := r
      obtain ⟨o, z, _⟩ := h2.there
      exact ⟨b, e, (kp.l b o h1 z).1, h2.keep kp fun o z => gr b o z⟩
    | cel i => exact r
    | brd rms cks i =>
      obtain ⟨b, u, e, h1, h2, h3⟩ := r
      obtain ⟨o, z⟩ := h2.there
      exact ⟨b, u, e, (kp.l b o h1 z).1, h2.keep kp fun o z => gr b o z, h3⟩
    | scr ns => exact RepA.mv F (Mv.grow gr) r
  refine ⟨F.len, fun i av e => ?_, F.clen, fun i a e => ?_, F.nd, fun b o e h => gr _ _ (F.old b o e h), F.sub, F.adw, fun q hq => ⟨(F.gh q hq).1, rep (F.gh q hq).2⟩, fun a ha => ?_, F.bs⟩
  · obtain ⟨v, h1, h2⟩ := F.var i av e
    exact ⟨v, h1, rep h2⟩
  · obtain ⟨cl, h1, h2⟩ := F.cel i a e
    refine ⟨cl, h1, ?_⟩
    cases cl with
    | lst ds =>
      obtain ⟨xs, h3, hz, h4⟩ := h2
      exact ⟨xs, gr _ _ h3, hz, h4.keep kp⟩
    | dct tp kvs => exact DctAt.keep kp (fun o z => gr _ _ z) h2
    | gone => exact h2
  · rcases List.mem_cons.mp ha with e | e
    · subst e; exact ⟨nD, _, upd_same⟩
    · obtain ⟨h1, ws, h2⟩ := F.pr a e
      exact ⟨h1, ws, gr _ _ h2⟩
/-- a protected list grows -/
theorem FR.fill {D : Addr} (F : FR p (c.hold D) fr ad σ H) (hD : c.He D = none) {vs ws : List V} (e : H D = some (.lst vs)) : FR p (c.hold D) fr ad σ (upd H D (.lst ws)) ∧ Keep H (upd H D (.lst ws)) (okP (c.hold D) ad) (okP (c.hold D) ad) := by
  have nD : some D ∉ ad := (F.pr D (List.mem_cons_self ..)).1
  have ne : ∀ a, okP (c.hold D) ad a → a ≠ D := fun a h z => h.1.2 (by rw [z]; exact List.mem_cons_self ..)
  have kp : Keep H (upd H D (.lst ws)) (okP (c.hold D) ad) (okP (c.hold D) ad) := ⟨fun a o h q => ⟨h, by rw [upd_ne (ne a h)]; exact q⟩, wr_t e⟩
  have rep : ∀ {v : V} {av : AV}, RepA p H (okP (c.hold D) ad) ad v av → RepA p (upd H D (.lst ws)) (okP (c.hold D) ad) ad v av := fun {v av} r => by
    cases av with
    | dat y => exact Rep.keep kp r
    | dct tp kvs =>
      obtain ⟨b, e, h1, h2⟩ := r
      exact ⟨b, e, h1, h2.keep kp fun o z => by rw [upd_ne (ne b h1)]; exact z⟩
    | cel i => exact r
    | brd rms cks i =>
      obtain ⟨b, u, e, h1, h2, h3⟩ := r
      exact ⟨b, u, e, h1, h2.keep kp fun o z => by rw [upd_ne (ne b h1)]; exact z, h3⟩
    | scr ns =>
      obtain ⟨hl, b, rfl, z⟩ := r
      refine ⟨hl, b, rfl, ?_⟩
      rcases z with ⟨u, z⟩ | z
      · exact .inl ⟨u, by rw [upd_ne (by rintro rfl; rw [e] at z; cases z)]; exact z⟩
      · exact .inr z
  refine ⟨⟨F.len, fun i av q => ?_, F.clen, fun i a q => ?_, F.nd, fun b o q h => ?_, F.sub, F.adw, fun q hq => ⟨(F.gh q hq).1, rep (F.gh q hq).2⟩, fun a ha => ?_, F.bs⟩, kp⟩
  · obtain ⟨v, h1, h2⟩ := F.var i av q
    exact ⟨v, h1, rep h2⟩
  · obtain ⟨cl, h1, h2⟩ := F.cel i a q
    have na : a ≠ D := fun z => nD (by rw [← z]; exact List.mem_of_getElem? q)
    refine ⟨cl, h1, ?_⟩
    cases cl with
    | lst ds =>
      obtain ⟨xs, h3, hz, h4⟩ := h2
      exact ⟨xs, by rw [upd_ne na]; exact h3, hz, h4.keep kp⟩
    | dct tp kvs => exact DctAt.keep kp (fun o z => by rw [upd_ne na]; exact z) h2
    | gone => exact h2
  · have nb : b ≠ D := by
      intro z
      have q' : c.He b = some o := q
      rw [z, hD] at q'
      cases q'
    rw [upd_ne nb]; exact F.old b o q h
  · by_cases z : a = D
    · subst z; exact ⟨nD, _, upd_same⟩
    · obtain ⟨h1, us, h2⟩ := F.pr a ha
      exact ⟨h1, us, by rw [upd_ne z]; exact h2⟩
end
section
variable {X : Cx} {x : XW} {tg e elt : Expr} {ef : Fr → Res (List PyData)} {g : Tg} {t : Fr → Res Bool} {f : Fr → Res AV} {is : List Nat} {pos : Pos} {ifs : List Expr} {scope : Scope} {own : List (Str × Nat)}
/-- within a block nothing may be raised -/
abbrev xb (x : XW) : XW := ⟨fun _ _ _ _ => False, x.C⟩
abbrev Blk (X : Cx) (scope : Scope) (P : Cx → Prop) : Prop := ∀ (s : Shared) (H : Hp) (C : Addr) (cl : List (Str × Addr)) (fp : List Addr), P (X.blk s H scope (compEnvC scope cl C X.env) fp)
abbrev ATs (X : Cx) (x : XW) (ifs : List Expr) (t : Fr → Res Bool) : Prop := PTs X ifs (tT (pX X) x t)
theorem ats_nil : ATs X x [] xYes := ⟨fun pins s σ H Q I ⟨c, fr, ad, F, o⟩ => pts_nil.run pins s σ H Q I (o ad H F Mv.refl)⟩
theorem ats_one {a : Expr} (h : AT X x a t) : ATs X x [a] t := pts_one h
theorem lc_read {σ : L2.St} {H : Hp} {Q : VK} (hsub : ∀ i ∈ is, i ∈ own.map (·.2)) (h : tE (pX X) x (xComp (own.map (·.2)) ef g t f) σ H Q) :
    tLc (tI (pX X) x ef) (tG (pX X) is g) (tT (pX X) (xb x) t) (tE (pX X) (xb x) f) (own.map (·.2)) σ H Q := by
  obtain ⟨c, fr, ad, F, o⟩ := h
  refine ⟨c, fr, ad, F, (Out.bind F o).mono fun ys fr1 ad1 H1 F1 m1 o1 J qs hq wk D hD => ?_⟩
  split at o1
  rotate_left
  · exact o1.elim
  rename_i hlen
  have hDe := he_new F1 hD
  have gr1 : Grow H1 (upd H1 D (.lst [])) := Grow.new hD
  have F1h := (F1.plus hq).hold (vs := []) hD
  have Dad : some D ∉ ad1 := (F1h.pr D (List.mem_cons_self ..)).1
  generalize hown : own.map (·.2) = ow at *
  refine ⟨fun i m H => i ≤ ys.length ∧ m = ys.length - i ∧ ∃ (acc : List PyData) (cs : List Cell) (ad : List (Option Addr)) (vs : List V), FR (pX X) ((c.plus qs).hold D) ⟨fr1.vars, cs, fr1.base⟩ ad σ H ∧ H D = some (.lst vs) ∧ RepL X.K H (okP ((c.plus qs).hold D) ad) vs acc ∧ acc.length ≤ i ∧ Mv H1 ad1 H ad ∧
      (match compA ow g t f fr1.vars fr1.base (ys.drop i) acc cs with
        | some (r, cs') => ∀ ad' H', FR (pX X) c ⟨fr1.vars, cs', fr1.base⟩ ad' σ H' → Mv H1 ad1 H' ad' → ∀ v, Rep X.K H' (okP c ad') v (.list r) → Q v H'
        | none => False), ⟨ys.length, Nat.zero_le _, by simp, [], fr1.cells, ad1, [], F1h, upd_same, .nil, Nat.le_refl _, Mv.grow gr1, ?_⟩, ?_⟩
  · rw [List.drop_zero]
    cases q : compA ow g t f fr1.vars fr1.base ys [] fr1.cells with
    | none => rw [q] at o1; exact o1.elim
    | some r =>
      obtain ⟨r, cs'⟩ := r
      rw [q] at o1
      exact fun ad' H' F' m' v rv => o1 ad' H' F' m' v rv
  · rintro i m H2 ⟨hi2, rfl, acc, cs, ad2, vs, F2, hD2, racc, hacc, m2, o2⟩
    by_cases hlt : i < ys.length
    · right
      have ey : ys[i]? = some ys[i] := by rw [List.getElem?_eq_getElem hlt]
      obtain ⟨h1, h2⟩ := wk.go _ H2 i _ (FR.ghs (c := c.hold D) ⟨F2.len, F2.var, F2.clen, F2.cel, F2.nd, F2.old, F2.sub, F2.adw, F2.gh, F2.pr, F2.bs⟩) ey
      refine ⟨h1, _, fun H' h => ⟨ys.length - (i + 1), by omega, hlt, rfl, h⟩, fun v H3 hy => ?_⟩
      obtain ⟨gr, rv⟩ := h2 v H3 hy
      rw [List.drop_eq_getElem_cons hlt] at o2
      unfold compA at o2
      have F3 := F2.grow gr
      have D3 := gr D _ hD2
      have r3 := racc.keep (gr.keep (ok := okP ((c.plus qs).hold D) ad2))
      cases q1 : g ys[i] ⟨kill ow fr1.vars, cs, fr1.base⟩ with
      | none => rw [q1] at o2; exact o2.elim
      | some fr4 =>
        rw [q1] at o2
        simp only at o2
        refine ⟨(c.plus qs).hold D, ⟨kill ow fr1.vars, cs, fr1.base⟩, ad2, _, fr4, F3.wipe ow, rv, q1, fun σ4 F4 oa => ⟨?_, (c.plus qs).hold D, fr4, ad2, F4, ?_⟩⟩
        · rw [oa ow hsub]
          exact wipe_sub fun _ h => h
        · cases q2 : t fr4 with
          | exc cl fs fr5 => rw [q2] at o2; exact o2.elim
          | err => rw [q2] at o2; exact o2.elim
          | ok b fr5 =>
            rw [q2] at o2
            simp only at o2
            intro ad5 H5 F5 m5
            have B5 := F3.back m5 F5
            have M5 : Mv H1 ad1 H5 ad5 := (m2.trans F1 (Mv.grow gr)).trans F1 m5
            have D5 := m5.keep D _ D3 (F3.pr D (List.mem_cons_self ..)).1
            have r5 := r3.keep (m5.kp F3)
            cases b with
            | false =>
              simp only [Bool.false_eq_true, if_false] at o2 ⊢
              exact ⟨acc, fr5.cells, ad5, vs, B5, D5, r5, by omega, M5, o2⟩
            | true =>
              simp only [if_true] at o2 ⊢
              refine ⟨(c.plus qs).hold D, fr5, ad5, F5, ?_⟩
              cases q3 : f fr5 with
              | exc cl fs fr6 => rw [q3] at o2; exact o2.elim
              | err => rw [q3] at o2; exact o2.elim
              | ok av fr6 =>
                rw [q3] at o2
                intro ad6 H6 F6 m6 w rw_
                cases av with
                | dat z =>
                  simp only at o2
                  have B6 := B5.back m6 F6
                  have M6 := M5.trans F1 m6
                  have D6 := m6.keep D _ D5 (B5.pr D (List.mem_cons_self ..)).1
                  have r6 := r5.keep (m6.kp B5)
                  have len := r6.length
                  obtain ⟨F7, k7⟩ := B6.fill hDe (ws := vs ++ [w]) D6
                  refine ⟨vs, D6, by rw [sizeLine_eq]; omega, acc ++ [z], fr6.cells, ad6, vs ++ [w], F7, upd_same, RepL.append (r6.keep k7) (.cons (Rep.keep k7 rw_) .nil), by simp; omega, ?_, o2⟩
                  refine ⟨fun b u e n => ?_, M6.pre, M6.new, fun b h => ?_⟩
                  · have nb : b ≠ D := fun z => by rw [z, hD] at e; cases e
                    rw [upd_ne nb]; exact M6.keep b u e n
                  · by_cases z : b = D
                    · subst z; rw [upd_same]; simp
                    · rw [upd_ne z]; exact M6.there b h
                | _ => exact o2.elim
    · have e1 : i = ys.length := by omega
      subst e1
      left
      refine ⟨wk.stop _ H2 (FR.ghs (c := c.hold D) ⟨F2.len, F2.var, F2.clen, F2.cel, F2.nd, F2.old, F2.sub, F2.adw, F2.gh, F2.pr, F2.bs⟩), ?_⟩
      rw [List.drop_length] at o2
      have o3 : ∀ ad' H', FR (pX X) c ⟨fr1.vars, cs, fr1.base⟩ ad' σ H' → Mv H1 ad1 H' ad' → ∀ v, Rep X.K H' (okP c ad') v (.list acc) → Q v H' := o2
      refine o3 ad2 H2 F2.unhold.less m2 (.ref D) (.lst ⟨⟨.inl hDe, fun z => ?_⟩, (F2.pr D (List.mem_cons_self ..)).1⟩ hD2 (by rw [sizeLine_eq]; omega) (racc.mono okP_hold))
      obtain ⟨_, us, e⟩ := F1.pr D z
      rw [hD] at e; cases e
/-- as a value -/
theorem ae_lc (hc : X.calm = true) (hN : X.N.Nodup) (hi : AI X x tg e ef) (ok : BlkOk X.N X.env.scope scope own) (hg : Blk X scope fun Y => AG Y tg is g) (ht : Blk X scope fun Y => ATs Y (xb x) ifs t) (he : Blk X scope fun Y => AE Y (xb x) elt f)
    (hsub : ∀ i ∈ is, i ∈ own.map (·.2)) (hs : ∀ z, foldedSetIterable e X.env z = pure z := by intro _; rfl) : AE X x (.ListComp elt [⟨tg, e, ifs, 0⟩] scope pos) (xComp (own.map (·.2)) ef g t f) :=
  (pe_lc hc hN hi ok hg ht he hs).imp fun σ H Q h => lc_read hsub h
/-- name = [..] on one line -/
theorem as_setLc {i : Nat} {n : Str} {p1 spos : Pos} (hc : X.calm = true) (hN : X.N.Nodup) (hy : X.N[i]? = some n) (hyl : X.env.scope.names.lookup n = some .local) (hsw : swapsWith (.ListComp elt [⟨tg, e, ifs, 0⟩] scope pos) (some (.Name n p1)) spos.line X.env = pure true)
    (hi : AI X x tg e ef) (ok : BlkOk X.N X.env.scope scope own) (hg : Blk X scope fun Y => AG Y tg is g) (ht : Blk X scope fun Y => ATs Y (xb x) ifs t) (he : Blk X scope fun Y => AE Y (xb x) elt f)
    (hsub : ∀ i ∈ is, i ∈ own.map (·.2)) (hs : ∀ z, foldedSetIterable e X.env z = pure z := by intro _; rfl) : AS X x (.Assign [.Name n p1] (.ListComp elt [⟨tg, e, ifs, 0⟩] scope pos) spos) (sSet i (xComp (own.map (·.2)) ef g t f)) :=
  (ps_setLc hc hN hy hyl hsw hi ok hg ht he hs).imp fun D σ H ⟨c, fr, ad, F, o⟩ => lc_read hsub ⟨c, fr, ad, F, (SOut.of F o).mono fun av fr1 ad1 H1 F1 m1 o1 v rv => o1 ad1 _ H1 (F1.setv rv)⟩
end
end G
/-! GL: cells given up, written by place, grown; ranges. -/
namespace G
open PySem PySem.Spec PyProof.Rows L2
section
variable {X : Cx} {x : XW} {a b d : Expr} {f g h : Fr → Res AV} {pos : Pos} {st : Stmt} {ss : List Stmt} {s t u : Fr → SRes}
theorem frz_read {p : Par} {D : Ends} {σ : L2.St} {H : Hp} {i : Nat} (hh : tS p x (sFrz i s) D σ H) : tS p x s D σ H := by
  obtain ⟨c, fr, ad, F, o⟩ := hh
  unfold sFrz at o
  cases q : fr.vars[i]? with
  | none => rw [q] at o; exact o.elim
  | some w =>
    rw [q] at o
    cases w with
    | none => exact o.elim
    | some av =>
      cases av with
      | cel j =>
        simp only at o
        cases q2 : fr.frz j with
        | none => rw [q2] at o; exact o.elim
        | some fr2 =>
          rw [q2] at o
          obtain ⟨ad', F'⟩ := F.frz q2
          exact ⟨c, fr2, ad', F', o⟩
      | _ => exact o.elim
theorem as_frz (i : Nat) (h1 : AS X x st s) : AS X x st (sFrz i s) := L2.PS.imp h1 fun D σ H z => frz_read z
theorem ass_frz (i : Nat) (h1 : ASs X x ss s) : ASs X x ss (sFrz i s) := L2.PSs.imp h1 fun D σ H z => frz_read z
/-- name[i] = value, the name a list of one's own -/
theorem as_setIx {i : Nat} {n : Str} {p1 p2 : Pos} (hN : X.N[i]? = some n) (hv : Vis X.env.scope n) (hb : AE X x b g) (ha : AE X x a f) (hd : (n == ("__debug__" : Str)) = false := by decide) (hcd : (n == ("__classdict__" : Str)) = false := by decide)
    (hsub : ∀ v, assign (.Subscript (.Name n p1) b p2) X.env v = (do
      let ov ← holding [v] (eval (.Name n p1) X.env)
      let iv ← holding [v, ov] (eval b X.env)
      standAt p2
      holding [v, ov, iv] (setItem ov iv v)
      release [v, ov, iv] []) := by intro _; rfl)
    (hs : swapsWithSole [.Subscript (.Name n p1) b p2] a pos.line X.env = pure false := by rfl) (hw : swappedStores [.Subscript (.Name n p1) b p2] a X.env = pure none := by rfl)
    (h1 : (assignEach [.Subscript (.Name n p1) b p2] X.env).map (·.2) = [assign (.Subscript (.Name n p1) b p2) X.env] := by rfl) : AS X x (.Assign [.Subscript (.Name n p1) b p2] a pos) (sSetIx i g f) := by
  refine (ps_asg ha (pg_sub (pe_var hN hv hd hcd) hb set_list hsub) hs hw h1).imp fun D σ H ⟨c, fr, ad, F, o⟩ => ⟨c, fr, ad, F, (SOut.of F o).mono fun av fr1 ad1 H1 F1 m1 o1 v rv => ?_⟩
  cases q : fr1.vars[i]? with
  | none => rw [q] at o1; exact o1.elim
  | some w =>
    rw [q] at o1
    cases w with
    | none => exact o1.elim
    | some aw =>
      obtain ⟨vw, e1, e2⟩ := F1.var i aw q
      cases aw with
      | cel k =>
        obtain ⟨l, rfl, hl⟩ := e2
        refine ⟨_, e1, c, fr1, ad1, F1, (SOut.of F1 o1).mono fun bv fr2 ad2 H2 F2 m2 o2 w rw_ => ?_⟩
        have rv2 := RepA.mv F1 m2 rv
        cases av with
        | dat y =>
          cases bv with
          | dat yb =>
            cases yb with
            | int n =>
              cases RepB.int (.inl rw_)
              cases q2 : fr2.cells[k]? with
              | none => simp only [q2] at o2; exact o2.elim
              | some cl =>
                cases cl with
                | lst xs =>
                  simp only [q2] at o2
                  cases q3 : ixN xs.length n with
                  | none => simp only [q3] at o2; exact o2.elim
                  | some j =>
                    simp only [q3] at o2
                    have e3 := m2.pre k _ hl
                    obtain ⟨vs, h3, hz, h4⟩ := cell_lst F2 e3 q2
                    have m := List.mem_of_getElem? e3
                    refine ⟨l, vs, n, j, rfl, rfl, h3, by rw [h4.length]; exact q3, ?_⟩
                    exact o2 _ _ _ (F2.putc e3 (wr_t h3) ⟨_, upd_same, by rw [List.length_set]; exact hz, RepL.set (Rep.keep (wr_k m h3) rv2) j (h4.keep (wr_k m h3))⟩)
                | _ => simp only [q2] at o2; exact o2.elim
            | _ => exact o2.elim
          | _ => exact o2.elim
        | _ => exact o2.elim
      | _ => exact o1.elim
/-- name += value, by values -/
@[simp] def sAug (i : Nat) (sem : PyData → PyData → Option PyData) (f : Fr → Res AV) : Fr → SRes := fun fr => match fr.vars[i]? with
  | some (some (.dat y)) => (f fr).toS fun av fr1 => (match fr1.view av with
    | some z => (match sem y z with
      | some r => .nx (fr1.setv i (some (.dat r)))
      | none => .err)
    | none => .err)
  | _ => .err
theorem as_aug {op : Operator} {sem : PyData → PyData → Option PyData} {i : Nat} {n : Str} {p1 : Pos} (hN : X.N.Nodup) (hi : X.N[i]? = some n) (hx : Loc X.env.scope n) (ho : OpR X (inplaceOp op) (rOp2 X.K sem)) (ha : AE X x a f)
    (hf : X.fn n = true ∨ X.env.scope.names.lookup n = some .local := by first | exact .inl rfl | exact .inr rfl | assumption) : AS X x (.AugAssign (.Name n p1) op a pos) (sAug i sem f) := by
  have hp : PIp X op (rOp2 X.K sem) := fun pins s σ H xv yv v u Q I r1 r2 h => ho pins s σ H xv yv v u Q I r1 r2 h
  refine (ps_aug hN hi hx ha hp hf).imp fun D σ H ⟨c, fr, ad, F, o⟩ => ?_
  unfold sAug at o
  cases q : fr.vars[i]? with
  | none => rw [q] at o; exact o.elim
  | some w =>
    rw [q] at o
    cases w with
    | none => exact o.elim
    | some aw =>
      obtain ⟨vw, e1, e2⟩ := F.var i aw q
      cases aw with
      | dat y =>
        refine ⟨vw, e1, c, fr, ad, F, (SOut.of F o).mono fun av fr1 ad1 H1 F1 m1 o1 v rv => ?_⟩
        have r2 : Rep X.K H1 (okP c ad1) vw y := Rep.keep (m1.kp F) e2
        cases q1 : fr1.view av with
        | none => rw [q1] at o1; exact o1.elim
        | some z =>
          rw [q1] at o1
          simp only at o1
          cases q2 : sem y z with
          | none => rw [q2] at o1; exact o1.elim
          | some r =>
            rw [q2] at o1
            exact ⟨okP c ad1, y, z, r, fun p hp => okP_new F1 hp, .inl r2, view_rep F1 rv q1, q2, fun w H2 gr rw_ => o1 ad1 _ H2 ((F1.grow gr).setv (a := .dat r) rw_)⟩
      | _ => exact o.elim
end

/-! ### ranges -/
def rangeD (lo : Int) (n : Nat) : List PyData := (List.range n).map fun i => .int (lo + (i : Nat))
def rgOk (i : Int) : Bool := decide (-(2 ^ 62) ≤ i ∧ i < 2 ^ 62)
@[simp] def xRange1 (f : Fr → Res AV) : Fr → Res (List PyData) := fun fr => (f fr).bind fun a fr1 => match a with
  | .dat (.int j) => if rgOk j = true then .ok (rangeD 0 j.toNat) fr1 else .err
  | _ => .err
@[simp] def xRange2 (f g : Fr → Res AV) : Fr → Res (List PyData) := fun fr => (f fr).bind fun a fr1 => (g fr1).bind fun b fr2 => match a, b with
  | .dat (.int i), .dat (.int j) => if rgOk i = true ∧ rgOk j = true then .ok (rangeD i (j - i).toNat) fr2 else .err
  | _, _ => .err
theorem wk_range {p : Par} {lo : Int} {n : Nat} : Wk p (Itr lo n) [] (rangeD lo n) where
  go := fun ok H i y _ e => by
    unfold rangeD at e
    rw [List.getElem?_map] at e
    have hi : i < n := by
      rcases Nat.lt_or_ge i n with q | q
      · exact q
      · rw [List.getElem?_eq_none (by simpa using q)] at e; cases e
    rw [List.getElem?_range hi] at e
    cases e
    refine ⟨hi, fun v H' hy => ?_⟩
    obtain ⟨rfl, rfl⟩ := hy
    exact ⟨Grow.refl, .int _⟩
  stop := fun ok H _ => by
    show n ≤ (rangeD lo n).length
    unfold rangeD
    simp
section
variable {X : Cx} {x : XW} {tg a b : Expr} {f g : Fr → Res AV}
theorem ai_range1 {p1 pos : Pos} (hg : Gl X "range") (hm : X.mg "range" = none) (ha : AE X x a f) (hst : starEach [a] X.env = [(false, eval a X.env)] := by rfl) : AI X x tg (.Call (.Name "range" p1) [a] [] pos) (xRange1 f) := by
  have hw := pi_range1 (tg := tg) (p := p1) (pos := pos) hg hm (pa_cons ha pa_nil hst) hst
  refine ⟨fun pins s σ H R I hh => hw.run pins s σ H R I ?_⟩
  obtain ⟨c, fr, ad, F, o⟩ := hh
  refine ⟨c, fr, ad, F, (Out.bind F o).mono fun av fr1 ad1 H1 F1 m1 o1 v rv => ?_⟩
  cases av with
  | dat y =>
    cases y with
    | int j =>
      cases RepB.int (.inl rv)
      simp only at o1
      split at o1
      · rename_i hj
        have hj2 := of_decide_eq_true hj
        exact ⟨j, rfl, hj2.1, hj2.2, o1 ad1 H1 F1 Mv.refl _ [] (fun q hq => nomatch hq) wk_range⟩
      · exact o1.elim
    | _ => exact o1.elim
  | _ => exact o1.elim
theorem ai_range2 {p1 pos : Pos} (hg : Gl X "range") (hm : X.mg "range" = none) (ha : AE X x a f) (hb : AE X x b g) (hst : starEach [a, b] X.env = [(false, eval a X.env), (false, eval b X.env)] := by rfl) (hst2 : starEach [b] X.env = [(false, eval b X.env)] := by rfl) : AI X x tg (.Call (.Name "range" p1) [a, b] [] pos) (xRange2 f g) := by
  have hw := pi_range2 (tg := tg) (p := p1) (pos := pos) hg hm (pa_cons ha (pa_cons hb pa_nil hst2) (by rw [hst, hst2])) hst hst2
  refine ⟨fun pins s σ H R I hh => hw.run pins s σ H R I ?_⟩
  obtain ⟨c, fr, ad, F, o⟩ := hh
  refine ⟨c, fr, ad, F, (Out.bind F o).mono fun av fr1 ad1 H1 F1 m1 o1 v rv => ?_⟩
  refine ⟨c, fr1, ad1, F1, (Out.bind F1 o1).mono fun bv fr2 ad2 H2 F2 m2 o2 w rw_ => ?_⟩
  cases av with
  | dat y =>
    cases y with
    | int i =>
      cases bv with
      | dat z =>
        cases z with
        | int j =>
          cases RepB.int (.inl rv)
          cases RepB.int (.inl rw_)
          simp only at o2
          split at o2
          · rename_i hj
            have h1 := of_decide_eq_true hj.1
            have h2 := of_decide_eq_true hj.2
            exact ⟨i, j, rfl, ⟨h1.1, h1.2, h2.1, h2.2⟩, o2 ad2 H2 F2 Mv.refl _ [] (fun q hq => nomatch hq) wk_range⟩
          · exact o2.elim
        | _ => exact o2.elim
      | _ => exact o2.elim
    | _ => cases bv <;> exact o2.elim
  | _ => cases bv <;> exact o2.elim
end
end G
/-! GM: dicts: what they hold, reading and writing them. -/
namespace G
open PySem PySem.Spec PyProof.Rows L2

mutual
def nkO : PyData → Option NestedKey
  | .none => some .none
  | .int i => some (.num i)
  | .str x => some (.text x)
  | .tuple xs => match nkOs xs with
    | some ks => some (.tup ks)
    | none => none
  | .bool _ => none
  | .list _ => none
  | .dict _ => none
def nkOs : List PyData → Option (List NestedKey)
  | [] => some []
  | x :: xs => match nkO x, nkOs xs with
    | some k, some ks => some (k :: ks)
    | _, _ => none
end
mutual
theorem nkO_eq : ∀ {k : PyData} {n : NestedKey}, nkO k = some n → k = nkD n
  | .none, n, e => by simp [nkO] at e; subst e; rfl
  | .int i, n, e => by simp [nkO] at e; subst e; rfl
  | .str x, n, e => by simp [nkO] at e; subst e; rfl
  | .tuple xs, n, e => by
    simp only [nkO] at e
    cases q : nkOs xs with
    | none => rw [q] at e; cases e
    | some ks => rw [q] at e; cases e; rw [nkOs_eq q]; rfl
  | .bool _, _, e => by simp [nkO] at e
  | .list _, _, e => by simp [nkO] at e
  | .dict _, _, e => by simp [nkO] at e
theorem nkOs_eq : ∀ {k : List PyData} {n : List NestedKey}, nkOs k = some n → k = nkDs n
  | [], n, e => by simp [nkOs] at e; subst e; rfl
  | x :: xs, n, e => by
    simp only [nkOs] at e
    cases q1 : nkO x with
    | none => rw [q1] at e; cases e
    | some k =>
      cases q2 : nkOs xs with
      | none => rw [q1, q2] at e; cases e
      | some ks => rw [q1, q2] at e; cases e; rw [nkO_eq q1, nkOs_eq q2]; rfl
end
mutual
theorem eqv_nk : ∀ a b : NestedKey, PyData.eqv (nkD a) (nkD b) = NestedKey.beq a b
  | .none, .none => rfl
  | .num a, .num b => by simp [nkD, PyData.eqv, NestedKey.beq]; exact Bool.beq_eq_decide_eq _ _
  | .text a, .text b => by simp [nkD, PyData.eqv, NestedKey.beq]; exact Bool.beq_eq_decide_eq _ _
  | .tup a, .tup b => by simp only [nkD, PyData.eqv, NestedKey.beq]; exact eqv_nks a b
  | .none, .num _ | .none, .text _ | .none, .tup _ => rfl
  | .num _, .none | .num _, .text _ | .num _, .tup _ => rfl
  | .text _, .none | .text _, .num _ | .text _, .tup _ => rfl
  | .tup _, .none | .tup _, .num _ | .tup _, .text _ => rfl
theorem eqv_nks : ∀ a b : List NestedKey, PyData.eqvAll (nkDs a) (nkDs b) = NestedKey.beqAll a b
  | [], [] => rfl
  | a :: as, b :: bs => by simp only [nkDs, PyData.eqvAll, NestedKey.beqAll]; rw [eqv_nk a b, eqv_nks as bs]
  | [], _ :: _ => rfl
  | _ :: _, [] => rfl
end
theorem beq_dec (a b : NestedKey) : NestedKey.beq a b = decide (a = b) := by
  by_cases h : a = b
  · subst h; simp [NestedKey.beq_self]
  · rw [decide_eq_false h]
    cases q : NestedKey.beq a b with
    | false => rfl
    | true => exact absurd (NestedKey.eq_of_beq a b q) h
theorem eqv_key (a b : Key) : PyData.eqv (keyD a) (keyD b) = decide (a = b) := by
  cases a <;> cases b
  · rw [key_ll]; rfl
  · rw [key_lr]; rfl
  · rw [key_rl]; rfl
  · rw [key_rr]
    simp only [keyD, PyData.eqv]
    exact Bool.beq_eq_decide_eq _ _

/-! ### on data -/
def kfind (kvs : List (PyData × PyData)) (k : PyData) : Option PyData := (kvs.find? fun q => PyData.eqv q.1 k).map (·.2)
def kput (kvs : List (PyData × PyData)) (k v : PyData) : List (PyData × PyData) :=
  if (kfind kvs k).isSome = true then kvs.map fun q => if PyData.eqv q.1 k = true then (q.1, v) else q else kvs ++ [(k, v)]
/-- what may be a key of such a dict -/
def kOk : Bool → PyData → Bool
  | false, .int _ => true
  | false, .str _ => true
  | true, .tuple xs => match nkO (.tuple xs) with
    | some n => decide (n.depth ≤ 8)
    | none => false
  | _, _ => false
theorem kOk_f {k : PyData} (h : kOk false k = true) : ∃ n : Key, k = keyD n := by
  cases k with
  | int i => exact ⟨.inl i, rfl⟩
  | str x => exact ⟨.inr x, rfl⟩
  | _ => cases h
theorem kOk_t {k : PyData} (h : kOk true k = true) : ∃ ks : List NestedKey, k = nkD (.tup ks) ∧ (NestedKey.tup ks).depth ≤ 8 := by
  cases k with
  | tuple xs =>
    simp only [kOk] at h
    cases q : nkO (.tuple xs) with
    | none => rw [q] at h; cases h
    | some n =>
      rw [q] at h
      have e := nkO_eq q
      cases n with
      | tup ks => exact ⟨ks, e, of_decide_eq_true h⟩
      | none => cases e
      | num i => cases e
      | text x => cases e
  | _ => cases h

section
variable {X : Cx} {pins : List (Addr × Obj)} {σ : L2.St} {H : Hp} {s : Shared} {ok : Addr → Prop}
theorem rep_key {v : V} {n : Key} (r : Rep X.K H ok v (keyD n)) : v = kV n ∧ keyS n := by
  cases n with
  | inl i => exact ⟨RepB.int (.inl r), trivial⟩
  | inr x => exact ⟨(RepB.str (.inl r)).1, (RepB.str (.inl r)).2⟩
mutual
theorem nested_is (I : Inv X pins σ H s) : ∀ (n : NestedKey) (v : V) (u : Value), Rep X.K H ok v (nkD n) → RelV v u → NestedIs s.heap n u
  | .none, v, u, r, rv => by cases RepB.none (.inl r); cases rv; exact .none
  | .num i, v, u, r, rv => by cases RepB.int (.inl r); obtain ⟨t, rfl⟩ := rv; exact .int i t
  | .text x, v, u, r, rv => by cases (RepB.str (.inl r)).1; obtain ⟨t, rfl⟩ := rv; exact .text x t
  | .tup ks, v, u, r, rv => by
    obtain ⟨a, xs, rfl, h1, _, h2⟩ := RepB.tuple (.inl r)
    cases rv
    obtain ⟨its, rvs, ⟨o, ho, hc, n, hd⟩, _⟩ := I.tuple h1
    exact .tup ho hc hd (nested_all I ks xs its h2 rvs)
theorem nested_all (I : Inv X pins σ H s) : ∀ (ks : List NestedKey) (vs : List V) (us : List Value), RepL X.K H ok vs (nkDs ks) → Vals vs us → NestedAll s.heap ks us
  | [], _, _, .nil, .nil => .nil
  | k :: ks, _, _, .cons r rs, .cons q qs => .cons (nested_is I k _ _ r q) (nested_all I ks _ _ rs qs)
end
abbrev nK (X : Cx) := nestedKind X.prog X.w
abbrev PrT (p : Par) (H : Hp) (ok : Addr → Prop) (x : NestedKey × Addr × Value) (q : PyData × PyData) : Prop := q.1 = nkD x.1 ∧ x.1.depth ≤ 8 ∧ Rep p.K H ok (.ref x.2.1) q.1 ∧ ∃ v, RelV v x.2.2 ∧ Rep p.K H ok v q.2
abbrev PrF (p : Par) (H : Hp) (ok : Addr → Prop) (x : Key × V) (q : PyData × PyData) : Prop := q.1 = keyD x.1 ∧ keyS x.1 ∧ Rep p.K H ok x.2 q.2
/-- the dict's object as the library wants it -/
theorem dct_h (I : Inv X pins σ H s) {a : Addr} {es : Array DictEntry} {ep : Nat} {xs : List (NestedKey × Addr × Value)} {kvs : List (PyData × PyData)} (e : H a = some (dTh a es ep)) (h1 : es.toList = xs.map (entryOfKey (nK X))) (h2 : (xs.map (·.1)).Nodup) (r : Paired (PrT (pX X) H ok) xs kvs) : s.heap.DictOfH (nK X) a xs := by
  have hk : ObjOk X.prog X.w H s.heap a (dTh a es ep) := I.hok a _ e
  obtain ⟨⟨o, ho, hx, hd⟩, _⟩ := hk
  refine ⟨o, es, ep, ho, hx, hd, h1, fun x hx => ?_, h2⟩
  have : ∀ {xs : List (NestedKey × Addr × Value)} {kvs : List (PyData × PyData)}, Paired (PrT (pX X) H ok) xs kvs → ∀ x ∈ xs, (nK X).is s.heap x.1 x.2.1 := by
    intro xs kvs r
    induction r with
    | nil => intro x hx; simp at hx
    | cons q _ ih =>
      intro x hx
      rcases List.mem_cons.mp hx with e | e
      · subst e
        obtain ⟨q1, q2, q3, _⟩ := q
        rw [q1] at q3
        exact ⟨nested_is I _ _ _ q3 rfl, q2⟩
      · exact ih x e
  exact this r x hx
theorem find_t {p : Par} {n : NestedKey} : ∀ {xs : List (NestedKey × Addr × Value)} {kvs : List (PyData × PyData)}, Paired (PrT p H ok) xs kvs → (kfind kvs (nkD n) = none ∧ atKey xs n = none) ∨ ∃ y q, kfind kvs (nkD n) = some y ∧ atKey xs n = some q ∧ ∃ v, RelV v q.2 ∧ Rep p.K H ok v y
  | _, _, .nil => .inl ⟨rfl, rfl⟩
  | x :: xs, q :: kvs, .cons r rs => by
    obtain ⟨q1, q2, q3, v, q4, q5⟩ := r
    have e : PyData.eqv q.1 (nkD n) = decide (x.1 = n) := by rw [q1, eqv_nk, beq_dec]
    unfold kfind atKey
    rw [List.find?_cons, List.find?_cons, e]
    by_cases h : x.1 = n
    · rw [decide_eq_true h]
      exact .inr ⟨q.2, x.2, rfl, rfl, v, q4, q5⟩
    · rw [decide_eq_false h]
      exact find_t rs
theorem find_f {p : Par} {n : Key} : ∀ {xs : List (Key × V)} {kvs : List (PyData × PyData)}, Paired (PrF p H ok) xs kvs → (kfind kvs (keyD n) = none ∧ valV xs n = none) ∨ ∃ y v, kfind kvs (keyD n) = some y ∧ valV xs n = some v ∧ Rep p.K H ok v y
  | _, _, .nil => .inl ⟨rfl, rfl⟩
  | x :: xs, q :: kvs, .cons r rs => by
    obtain ⟨q1, q2, q3⟩ := r
    have e : PyData.eqv q.1 (keyD n) = decide (x.1 = n) := by rw [q1, eqv_key]
    unfold kfind valV
    rw [List.find?_cons, List.find?_cons, e]
    by_cases h : x.1 = n
    · rw [decide_eq_true h]
      exact .inr ⟨q.2, x.2, rfl, rfl, q3⟩
    · rw [decide_eq_false h]
      exact find_f rs
theorem room8 {n : Nat} (h : n + 64 < cLine) : n + 1 + 8 < cLine := by omega
theorem _root_.L2.DGet.kR {H : Hp} {a : Addr} {kvs : List (Key × V)} {k : Key} (e : Rd H a (.dK kvs)) : DGet H a (kV k) (valV kvs k) := .inl ⟨kvs, k, e, rfl, rfl⟩
/-- d[k], where it is -/
theorem g_get {Q : VK} {a : Addr} {tp : Bool} {kvs : List (PyData × PyData)} {y : V} {u : Value} {k r : PyData} (hu : X.A.units + 64 < cLine) (I : Inv X pins σ H s) (d : DctR (pX X) H ok a tp kvs) (ry : Rep X.K H ok y k) (rv : RelV y u) (hk : kOk tp k = true) (hf : kfind kvs k = some r)
    (q : ∀ v, Rep X.K H ok v r → Q v H) : wpAny (model X.prog X.w) X.A (getItem (.ref a) u) (EP X pins σ Q) X.xe s := by
  cases tp with
  | false =>
    obtain ⟨ks, e, r1⟩ := d.rd
    obtain ⟨n, rfl⟩ := kOk_f hk
    obtain ⟨rfl, _⟩ := rep_key ry
    rcases find_f (n := n) r1 with ⟨z, _⟩ | ⟨z, v, h1, h2, h3⟩
    · rw [hf] at z; cases z
    · rw [hf] at h1; cases h1
      exact d_getItem (v := v) (by omega) I (by rw [← h2]; exact DGet.kR e) rv fun w' s' I' rw' => ⟨v, H, I', rw', q v h3⟩
  | true =>
    obtain ⟨es, ep, xs, e, h1, h2, h3, h4, r1⟩ := d.tt
    obtain ⟨ks, rfl, hd⟩ := kOk_t hk
    obtain ⟨b, ys, rfl, _⟩ := RepB.tuple (.inl ry)
    cases rv
    rcases find_t (n := .tup ks) r1 with ⟨z, _⟩ | ⟨z, w, g1, g2, v, g3, g4⟩
    · rw [hf] at z; cases z
    · rw [hf] at g1; cases g1
      exact wpAny_getItem_heap (knd := nK X) (room8 hu) ⟨nested_is I _ _ _ ry rfl, hd⟩ (dct_h I e h1 h2 r1) g2 ⟨v, H, I.tok _, g3, q v g4⟩
theorem g_in {Q : VK} {a : Addr} {tp : Bool} {kvs : List (PyData × PyData)} {y : V} {u : Value} {k : PyData} (hu : X.A.units + 64 < cLine) (I : Inv X pins σ H s) (d : DctR (pX X) H ok a tp kvs) (ry : Rep X.K H ok y k) (rv : RelV y u) (hk : kOk tp k = true)
    (q : Q (.bl (kfind kvs k).isSome) H) : wpAny (model X.prog X.w) X.A (compareOp .In u (.ref a)) (EP X pins σ Q) X.xe s := by
  cases tp with
  | false =>
    obtain ⟨ks, e, r1⟩ := d.rd
    obtain ⟨n, rfl⟩ := kOk_f hk
    obtain ⟨rfl, _⟩ := rep_key ry
    refine d_in (by omega) I (DGet.kR (k := n) e) rv fun s' I' => ⟨.bl _, H, I', rfl, ?_⟩
    rcases find_f (n := n) r1 with ⟨z, w⟩ | ⟨z, v, h1, h2, h3⟩
    · rw [w]; rw [z] at q; exact q
    · rw [h2]; rw [h1] at q; exact q
  | true =>
    obtain ⟨es, ep, xs, e, h1, h2, h3, h4, r1⟩ := d.tt
    obtain ⟨ks, rfl, hd⟩ := kOk_t hk
    obtain ⟨b, ys, rfl, _⟩ := RepB.tuple (.inl ry)
    cases rv
    refine wpAny_in_heap (knd := nK X) (room8 hu) ⟨nested_is I _ _ _ ry rfl, hd⟩ h3 (dct_h I e h1 h2 r1) ⟨.bl _, H, I.tok _, rfl, ?_⟩
    rcases find_t (n := .tup ks) r1 with ⟨z, w⟩ | ⟨z, w, g1, g2, v, g3, g4⟩
    · rw [w]; rw [z] at q; exact q
    · rw [g2]; rw [g1] at q; exact q
theorem g_notIn {Q : VK} {a : Addr} {tp : Bool} {kvs : List (PyData × PyData)} {y : V} {u : Value} {k : PyData} (hu : X.A.units + 64 < cLine) (I : Inv X pins σ H s) (d : DctR (pX X) H ok a tp kvs) (ry : Rep X.K H ok y k) (rv : RelV y u) (hk : kOk tp k = true)
    (q : Q (.bl (!(kfind kvs k).isSome)) H) : wpAny (model X.prog X.w) X.A (compareOp .NotIn u (.ref a)) (EP X pins σ Q) X.xe s := by
  cases tp with
  | false =>
    obtain ⟨ks, e, r1⟩ := d.rd
    obtain ⟨n, rfl⟩ := kOk_f hk
    obtain ⟨rfl, _⟩ := rep_key ry
    refine d_notIn (by omega) I (DGet.kR (k := n) e) rv fun s' I' => ⟨.bl _, H, I', rfl, ?_⟩
    rcases find_f (n := n) r1 with ⟨z, w⟩ | ⟨z, v, h1, h2, h3⟩
    · rw [w]; rw [z] at q; exact q
    · rw [h2]; rw [h1] at q; exact q
  | true =>
    obtain ⟨es, ep, xs, e, h1, h2, h3, h4, r1⟩ := d.tt
    obtain ⟨ks, rfl, hd⟩ := kOk_t hk
    obtain ⟨b, ys, rfl, _⟩ := RepB.tuple (.inl ry)
    cases rv
    refine wpAny_notIn_heap (knd := nK X) (room8 hu) ⟨nested_is I _ _ _ ry rfl, hd⟩ h3 (dct_h I e h1 h2 r1) ⟨.bl _, H, I.tok _, rfl, ?_⟩
    rcases find_t (n := .tup ks) r1 with ⟨z, w⟩ | ⟨z, w, g1, g2, v, g3, g4⟩
    · rw [w]; rw [z] at q; exact q
    · rw [g2]; rw [g1] at q; exact q
/-- d.get(k, z) -/
theorem g_getD {Q : VK} {a : Addr} {tp : Bool} {kvs : List (PyData × PyData)} {y z : V} {u uz : Value} {k dz : PyData} (hu : X.A.units + 64 < cLine) (I : Inv X pins σ H s) (d : DctR (pX X) H ok a tp kvs) (ry : Rep X.K H ok y k) (rv : RelV y u) (rz : Rep X.K H ok z dz) (ruz : RelV z uz) (hk : kOk tp k = true)
    (q : ∀ v, Rep X.K H ok v ((kfind kvs k).getD dz) → Q v H) : wpAny (model X.prog X.w) X.A (call (.builtin "dict.get") [.ref a, u, uz]) (EP X pins σ Q) X.xe s := by
  cases tp with
  | false =>
    obtain ⟨ks, e, r1⟩ := d.rd
    obtain ⟨n, rfl⟩ := kOk_f hk
    obtain ⟨rfl, _⟩ := rep_key ry
    refine d_get2 (by omega) I (DGet.kR (k := n) e) rv ruz fun w' s' I' rw' => ⟨_, H, I', rw', q _ ?_⟩
    rcases find_f (n := n) r1 with ⟨z1, w⟩ | ⟨z1, v, h1, h2, h3⟩
    · rw [w, z1]; exact rz
    · rw [h2, h1]; exact h3
  | true =>
    obtain ⟨es, ep, xs, e, h1, h2, h3, h4, r1⟩ := d.tt
    obtain ⟨ks, rfl, hd⟩ := kOk_t hk
    obtain ⟨b, ys, rfl, _⟩ := RepB.tuple (.inl ry)
    cases rv
    have dd := dct_h I e h1 h2 r1
    refine call_meetsIn PySem.F.slot_dict_get dd.typeIs PySem.F.entry_dict_get (PySem.F.args_dict_get_3 _ _ _) (meetsH_dict_get_default (nK X) a b h3 uz) ⟨room8 hu, .tup ks, xs, ⟨nested_is I _ _ _ ry rfl, hd⟩, dd, ?_⟩
    rcases find_t (n := .tup ks) r1 with ⟨z1, w⟩ | ⟨z1, w, g1, g2, v, g3, g4⟩
    · rw [w]; rw [z1] at q
      exact ⟨z, H, I.tok _, ruz, q z rz⟩
    · rw [g2]; rw [g1] at q
      exact ⟨v, H, I.tok _, g3, q v g4⟩
end
end G
/-! GN: dicts: written, new; as expressions and statements. -/
namespace G
open PySem PySem.Spec PyProof.Rows L2

section
variable {p : Par} {H : Hp} {ok : Addr → Prop}
theorem find_isSome {α : Type} {f : α → Bool} {l : List α} : (l.find? f).isSome = l.any f := by
  induction l with
  | nil => rfl
  | cons a l ih =>
    rw [List.find?_cons, List.any_cons]
    cases f a <;> simp [ih]
theorem kfind_any (kvs : List (PyData × PyData)) (k : PyData) : (kfind kvs k).isSome = kvs.any fun q => PyData.eqv q.1 k := by
  unfold kfind
  rw [Option.isSome_map, find_isSome]
theorem Paired.mapB {α β γ δ : Type} {R : α → β → Prop} {S : γ → δ → Prop} {f : α → γ} {g : β → δ} (h : ∀ a b, R a b → S (f a) (g b)) : ∀ {l : List α} {m : List β}, Paired R l m → Paired S (l.map f) (m.map g)
  | _, _, .nil => .nil
  | _, _, .cons r rs => .cons (h _ _ r) (Paired.mapB h rs)
theorem Paired.snoc {α β : Type} {R : α → β → Prop} {a : α} {b : β} (h : R a b) : ∀ {l : List α} {m : List β}, Paired R l m → Paired R (l ++ [a]) (m ++ [b])
  | _, _, .nil => .cons h .nil
  | _, _, .cons r rs => .cons r (Paired.snoc h rs)
theorem put_f {n : Key} {v : V} {y : PyData} {xs : List (Key × V)} {kvs : List (PyData × PyData)} (r : Paired (PrF p H ok) xs kvs) (hs : keyS n) (rv : Rep p.K H ok v y) : Paired (PrF p H ok) (putK xs n v) (kput kvs (keyD n) y) := by
  unfold putK kput
  have e : (xs.any fun kv => decide (kv.1 = n)) = (kfind kvs (keyD n)).isSome := by
    rw [valV_any]
    rcases find_f (n := n) r with ⟨h1, h2⟩ | ⟨_, _, h1, h2, _⟩ <;> rw [h1, h2] <;> rfl
  rw [e]
  split
  · refine Paired.mapB (fun a b h => ?_) r
    obtain ⟨q1, q2, q3⟩ := h
    have e : PyData.eqv b.1 (keyD n) = decide (a.1 = n) := by rw [q1, eqv_key]
    rw [e]
    by_cases ha : a.1 = n
    · rw [if_pos ha, if_pos (decide_eq_true ha)]; exact ⟨q1, q2, rv⟩
    · rw [if_neg ha, if_neg (by rw [decide_eq_false ha]; decide)]; exact ⟨q1, q2, q3⟩
  · exact Paired.snoc ⟨rfl, hs, rv⟩ r
theorem put_t {n : NestedKey} {b : Addr} {u : Value} {v : V} {y : PyData} {xs : List (NestedKey × Addr × Value)} {kvs : List (PyData × PyData)} (r : Paired (PrT p H ok) xs kvs) (hd : n.depth ≤ 8) (rk : Rep p.K H ok (.ref b) (nkD n)) (ru : RelV v u) (rv : Rep p.K H ok v y) : Paired (PrT p H ok) (storedH xs n b u) (kput kvs (nkD n) y) := by
  unfold storedH kput
  have e : (atKey xs n).isSome = (kfind kvs (nkD n)).isSome := by
    rcases find_t (n := n) r with ⟨h1, h2⟩ | ⟨_, _, h1, h2, _⟩ <;> rw [h1, h2] <;> rfl
  rw [e]
  split
  · refine Paired.mapB (fun a c h => ?_) r
    obtain ⟨q1, q2, q3, w, q4, q5⟩ := h
    have e : PyData.eqv c.1 (nkD n) = decide (a.1 = n) := by rw [q1, eqv_nk, beq_dec]
    rw [e]
    unfold putAt
    by_cases ha : a.1 = n
    · rw [if_pos ha, if_pos (decide_eq_true ha)]; exact ⟨q1, q2, q3, v, ru, rv⟩
    · rw [if_neg ha, if_neg (by rw [decide_eq_false ha]; decide)]; exact ⟨q1, q2, q3, w, q4, q5⟩
  · exact Paired.snoc ⟨rfl, hd, rk, v, ru, rv⟩ r
theorem kput_len (kvs : List (PyData × PyData)) (k v : PyData) : (kput kvs k v).length ≤ kvs.length + 1 := by
  unfold kput
  split
  · rw [List.length_map]; omega
  · simp
end
/-- a dict that is written: tuples stand -/
theorem wr_td {p : Par} {H : Hp} {ok : Addr → Prop} {a : Addr} {tp : Bool} {kvs : List (PyData × PyData)} {o : HO} (d : DctAt p H ok a tp kvs) : ∀ b xs, Rd H b (.tup xs) → Rd (upd H a o) b (.tup xs) := fun b xs r => by
  obtain ⟨_, _, z⟩ := d.there
  have ne : b ≠ a := fun e => z xs (by rw [← e]; exact r)
  rcases r with r | ⟨u, r⟩
  · exact .inl (by rw [upd_ne ne]; exact r)
  · exact .inr ⟨u, by rw [upd_ne ne]; exact r⟩
section
variable {X : Cx} {pins : List (Addr × Obj)} {σ : L2.St} {H : Hp} {s : Shared} {ok : Addr → Prop}
theorem g_set {Q : Hp → Prop} {a : Addr} {tp : Bool} {kvs : List (PyData × PyData)} {y v : V} {u r : Value} {k dv : PyData} (hu : X.A.units + 64 < cLine) (I : Inv X pins σ H s) (d : DctAt (pX X) H ok a tp kvs) (hne : ∀ b, ok b → b ≠ a) (ry : Rep X.K H ok y k) (ru : RelV y u) (rv : Rep X.K H ok v dv) (rr : RelV v r) (hk : kOk tp k = true) (hl : kvs.length < 1000000)
    (q : ∀ o, Keep H (upd H a o) ok ok → DctAt (pX X) (upd H a o) ok a tp (kput kvs k dv) → Q (upd H a o)) : wpAny (model X.prog X.w) X.A (setItem (.ref a) u r) (fun _ s' => ∃ H', Inv X pins σ H' s' ∧ Q H') X.xe s := by
  have kp : ∀ o, Keep H (upd H a o) ok ok := fun o => ⟨fun b w hb e => ⟨hb, by rw [upd_ne (hne b hb)]; exact e⟩, wr_td d⟩
  cases tp with
  | false =>
    obtain ⟨ks, e, r1⟩ := d
    obtain ⟨n, rfl⟩ := kOk_f hk
    obtain ⟨rfl, hs⟩ := rep_key ry
    have l1 : ks.length = kvs.length := Paired.length r1
    refine d_setItem (by omega) I (DPut.k (k := n) (v := v) e (by rw [sizeLine_eq]; omega)) ru rr fun s' I' => ⟨_, I', q _ (kp _) ⟨_, upd_same, ?_⟩⟩
    exact Paired.mapP (put_f r1 hs rv) fun _ _ ⟨h1, h2, h3⟩ => ⟨h1, h2, h3.keep (kp _)⟩
  | true =>
    obtain ⟨es, ep, xs, e, h1, h2, h3, h4, r1⟩ := d
    obtain ⟨ks, rfl, hd⟩ := kOk_t hk
    obtain ⟨b, ys, rfl, _⟩ := RepB.tuple (.inl ry)
    cases ru
    have l1 : xs.length = kvs.length := Paired.length r1
    refine wpAny_setItem_heap (knd := nK X) (hsz := by rw [l1]; exact h4) (room8 hu) ⟨nested_is I _ _ _ ry rfl, hd⟩ (dct_h I e h1 h2 r1) fun h' dd hs => ?_
    obtain ⟨o, es', ep', ho, hx, hda, he, _, hnd⟩ := dd
    have p1 := put_t r1 hd ry rr rv
    have l2 : (storedH xs (.tup ks) b r).length = (kput kvs (nkD (.tup ks)) dv).length := Paired.length p1
    refine ⟨upd H a (dTh a es' ep'), ?_, q _ (kp _) ⟨es', ep', _, upd_same, he, hnd, h3, ?_, ?_⟩⟩
    · refine I.write (t' := _) (x := a) (e := a) (by rw [e]; exact True.intro) (.inl rfl) (fun c w hc z => (hs.2 c hc).trans z) ⟨o, ho⟩ ?_
      exact ⟨⟨o, ho, hx, hda⟩, ⟨o, ho⟩, fun g1 g2 ⟨o1, z1, z2⟩ kk => ⟨o1, kk _ z1, z2⟩⟩
    · have := kput_len kvs (nkD (.tup ks)) dv
      rw [sizeLine_eq]; omega
    · exact Paired.mapP p1 fun _ _ ⟨g1, g2, g3, w, g4, g5⟩ => ⟨g1, g2, g3.keep (kp _), w, g4, g5.keep (kp _)⟩
end

/-! ### {} -/
def tNewT (a : Addr) : HO := dTh a #[] 0
section
variable {X : Cx} {x : XW} {a b d : Expr} {f g h : Fr → Res AV} {pos : Pos}
theorem pe_newT : PE X (.Dict [] [] pos) (fun _ H Q => ∀ p, H p = none → (p == sysModules) = false → Q (.ref p) (upd H p (dTh p #[] 0))) := ⟨fun pins s σ H Q I hh => by
  have hb : (s.heap.objs.size == sysModules) = false := beq_eq_false_iff_ne.mpr (Ne.symm (Nat.ne_of_lt I.big))
  refine wpAny_Dict_empty ⟨.ref s.heap.objs.size, _, I.laid (a := s.heap.objs.size) (o := dTh s.heap.objs.size #[] 0) (t' := s.toks) (fun _ _ q => Heap.get?_push_of_some _ q) (Nat.le_refl _) ?_, rfl, hh _ (I.hok.fresh (Nat.le_refl _)) hb⟩
  refine ⟨⟨_, Heap.get?_push_size _ rfl, ⟨rfl, rfl, rfl⟩, rfl⟩, ⟨_, Heap.get?_push_size _ rfl⟩, fun g1 g2 ⟨o1, z1, z2⟩ kk => ⟨o1, kk _ z1, z2⟩⟩⟩
/-- name = {}, to be written; tp: its keys are tuples -/
def sNewD (i : Nat) (tp : Bool) : Fr → SRes := fun fr => .nx ((fr.newc (.dct tp [])).setv i (some (.cel fr.cells.length)))
theorem as_newD {i : Nat} {n : Str} {p1 p2 : Pos} (tp : Bool) (hN : X.N.Nodup) (hi : X.N[i]? = some n) (hx : Loc X.env.scope n) (hs : swapsWith (.Dict [] [] p2) (some (.Name n p1)) pos.line X.env = pure false := by rfl)
    (hf : X.fn n = true ∨ X.env.scope.names.lookup n = some .local := by first | exact .inl rfl | exact .inr rfl | assumption) : AS X x (.Assign [.Name n p1] (.Dict [] [] p2) pos) (sNewD i tp) := by
  cases tp with
  | false =>
    refine (ps_set hN hi hx pe_dnewK hs hf).imp fun D σ H ⟨c, fr, ad, F, o⟩ p hp => ?_
    have F2 := F.newc (o := .dK []) (cl := .dct false []) hp fun ok hok => ⟨[], upd_same, .nil⟩
    exact o _ _ _ (F2.setv (a := .cel fr.cells.length) ⟨p, rfl, by rw [F.clen]; simp⟩)
  | true =>
    refine (ps_set hN hi hx pe_newT hs hf).imp fun D σ H ⟨c, fr, ad, F, o⟩ p hp hm => ?_
    have F2 := F.newc (o := dTh p #[] 0) (cl := .dct true []) hp fun ok hok => ⟨#[], 0, [], upd_same, rfl, List.nodup_nil, hm, Nat.zero_le _, .nil⟩
    exact o _ _ _ (F2.setv (a := .cel fr.cells.length) ⟨p, rfl, by rw [F.clen]; simp⟩)

/-! ### as expressions -/
/-- a dict that is read -/
@[simp] def Fr.dview (fr : Fr) : AV → Option (Bool × List (PyData × PyData))
  | .dct tp kvs => some (tp, kvs)
  | .cel i => match fr.cells[i]? with
    | some (.dct tp kvs) => some (tp, kvs)
    | _ => none
  | _ => none
theorem dview_rep {p : Par} {c : Ent} {fr : Fr} {ad : List (Option Addr)} {σ : L2.St} {H : Hp} (F : FR p c fr ad σ H) {v : V} {av : AV} {tp : Bool} {kvs : List (PyData × PyData)} (r : RepA p H (okP c ad) ad v av) (e : fr.dview av = some (tp, kvs)) : ∃ l, v = .ref l ∧ DctR p H (okP c ad) l tp kvs := by
  cases av with
  | dct tp' kvs' => cases e; obtain ⟨l, rfl, _, d⟩ := r; exact ⟨l, rfl, d⟩
  | cel i =>
    obtain ⟨l, rfl, q⟩ := r
    obtain ⟨cl, h1, h2⟩ := F.cel i l q
    unfold Fr.dview at e
    simp only [h1] at e
    cases cl with
    | dct tp' kvs' => cases e; exact ⟨l, rfl, DctAt.r h2⟩
    | _ => cases e
  | _ => cases e
def dget (tp : Bool) (kvs : List (PyData × PyData)) (k : PyData) : Option PyData := if kOk tp k = true then kfind kvs k else none
@[simp] def xDGet (f g : Fr → Res AV) : Fr → Res AV := fun fr => (f fr).bind fun a fr1 => (g fr1).bind fun b fr2 => match fr2.dview a, b with
  | some (tp, kvs), .dat k => ofO fr2 (dget tp kvs k)
  | _, _ => .err
theorem dct_ty {pins : List (Addr × Obj)} {σ : L2.St} {H : Hp} {s : Shared} {ok : Addr → Prop} {l : Addr} {tp : Bool} {kvs : List (PyData × PyData)} (I : Inv X pins σ H s) (hd : DctR (pX X) H ok l tp kvs) : s.TypeIs (.ref l) "dict" := by
  cases tp with
  | false =>
    obtain ⟨ks, e, _⟩ := hd.rd
    obtain ⟨_, _, vs, _, o, es, ep, h1, h2, _⟩ := dk_rd I.hok e
    exact ⟨o, h1, h2.1⟩
  | true =>
    obtain ⟨es, ep, xs, e, _⟩ := hd.tt
    obtain ⟨⟨o, h1, h2, _⟩, _⟩ := (show ObjOk X.prog X.w H s.heap l (dTh l es ep) from I.hok l _ e)
    exact ⟨o, h1, h2.1⟩
def rDG (X : Cx) : R2 := fun xv yv H Q => ∃ (ok : Addr → Prop) (l : Addr) (tp : Bool) (kvs : List (PyData × PyData)) (k r : PyData), xv = .ref l ∧ DctR (pX X) H ok l tp kvs ∧ Rep X.K H ok yv k ∧ kOk tp k = true ∧ kfind kvs k = some r ∧ ∀ v, Rep X.K H ok v r → Q v H
theorem pe_gd {td ty : TE} (hu : X.A.units + 64 < cLine) (ho : PE X a td) (hi : PE X b ty) (hs : NoSl b) : PE X (.Subscript a b pos) (tOp (rDG X) td ty) := by
  refine ⟨fun pins s σ H Q I hh => ?_⟩
  refine subD_of PySem.F.slot_dict_getitem.lookup hs (thn (ho.run pins s σ H _ I hh) fun u s1 ⟨xv, H1, I1, rx, q1⟩ => thn (hi.run pins s1 σ H1 _ I1 q1) fun iv s2 ⟨yv, H2, I2, ry, ok, l, tp, kvs, k, r, ex, hd, hr, hk, hf, q⟩ => ?_)
  subst ex
  cases rx
  exact ⟨dct_ty I2 hd, g_get hu I2 hd hr ry hk hf q⟩
theorem ae_dget (hu : X.A.units + 64 < cLine) (ha : AE X x a f) (hb : AE X x b g) (hs : NoSl b := by intro _ _; rfl) : AE X x (.Subscript a b pos) (xDGet f g) := by
  refine (pe_gd hu ha hb hs).imp fun σ H Q ⟨c, fr, ad, F, o⟩ => ⟨c, fr, ad, F, (Out.bind F o).mono fun av fr1 ad1 H1 F1 m1 o1 v rv => ?_⟩
  refine ⟨c, fr1, ad1, F1, (Out.bind F1 o1).mono fun bv fr2 ad2 H2 F2 m2 o2 w rw_ => ?_⟩
  have rv2 := RepA.mv F1 m2 rv
  cases q1 : fr2.dview av with
  | none => rw [q1] at o2; exact o2.elim
  | some z =>
    obtain ⟨tp, kvs⟩ := z
    cases bv with
    | dat k =>
      rw [q1] at o2
      simp only [dget] at o2
      split at o2
      · rename_i hk
        cases q3 : kfind kvs k with
        | none => rw [q3] at o2; exact o2.elim
        | some r =>
          rw [q3] at o2
          obtain ⟨l, rfl, dd⟩ := dview_rep F2 rv2 q1
          exact ⟨okP c ad2, l, tp, kvs, k, r, rfl, dd, rw_, hk, q3, fun v2 r2 => o2 ad2 H2 F2 Mv.refl v2 r2⟩
      · exact o2.elim
    | _ => rw [q1] at o2; exact o2.elim
/-- k in d, k not in d -/
@[simp] def xDIn (neg : Bool) (f g : Fr → Res AV) : Fr → Res AV := fun fr => (f fr).bind fun a fr1 => (g fr1).bind fun b fr2 => match fr2.dview b, a with
  | some (tp, kvs), .dat k => if kOk tp k = true then .ok (.dat (.bool (if neg = true then !(kfind kvs k).isSome else (kfind kvs k).isSome))) fr2 else .err
  | _, _ => .err
def rDI (X : Cx) (neg : Bool) : R2 := fun yv xv H Q => ∃ (ok : Addr → Prop) (l : Addr) (tp : Bool) (kvs : List (PyData × PyData)) (k : PyData), xv = .ref l ∧ DctR (pX X) H ok l tp kvs ∧ Rep X.K H ok yv k ∧ kOk tp k = true ∧ Q (.bl (if neg = true then !(kfind kvs k).isSome else (kfind kvs k).isSome)) H
theorem o_din (hu : X.A.units + 64 < cLine) : OpR X (compareOp .In) (rDI X false) := by
  intro pins s σ H yv xv u v Q I ry rx hh
  obtain ⟨ok, l, tp, kvs, k, rfl, hd, hr, hk, q⟩ := hh
  cases rx
  exact g_in hu I hd hr ry hk (by simpa using q)
theorem o_dnotin (hu : X.A.units + 64 < cLine) : OpR X (compareOp .NotIn) (rDI X true) := by
  intro pins s σ H yv xv u v Q I ry rx hh
  obtain ⟨ok, l, tp, kvs, k, rfl, hd, hr, hk, q⟩ := hh
  cases rx
  exact g_notIn hu I hd hr ry hk (by simpa using q)
theorem tE_din {neg : Bool} {σ : L2.St} {H : Hp} {Q : VK} (hh : tE (pX X) x (xDIn neg f g) σ H Q) : tOp (rDI X neg) (tE (pX X) x f) (tE (pX X) x g) σ H Q := by
  obtain ⟨c, fr, ad, F, o⟩ := hh
  refine ⟨c, fr, ad, F, (Out.bind F o).mono fun av fr1 ad1 H1 F1 m1 o1 v rv => ?_⟩
  refine ⟨c, fr1, ad1, F1, (Out.bind F1 o1).mono fun bv fr2 ad2 H2 F2 m2 o2 w rw_ => ?_⟩
  have rv2 := RepA.mv F1 m2 rv
  cases q1 : fr2.dview bv with
  | none => rw [q1] at o2; exact o2.elim
  | some z =>
    obtain ⟨tp, kvs⟩ := z
    cases av with
    | dat k =>
      rw [q1] at o2
      simp only at o2
      split at o2
      · rename_i hk
        obtain ⟨l, rfl, dd⟩ := dview_rep F2 rw_ q1
        exact ⟨okP c ad2, l, tp, kvs, k, rfl, dd, rv2, hk, o2 ad2 H2 F2 Mv.refl _ (.bl _)⟩
      · exact o2.elim
    | _ => rw [q1] at o2; exact o2.elim
theorem ae_din (hu : X.A.units + 64 < cLine) (ha : AE X x a f) (hb : AE X x b g) (hm : behindInMarks .In b = false) : AE X x (.Compare a [.In] [b] pos) (xDIn false f g) := (pe_cmpR (o_din hu) ha hb hm).imp fun _ _ _ h => tE_din h
theorem ae_dnotin (hu : X.A.units + 64 < cLine) (ha : AE X x a f) (hb : AE X x b g) (hm : behindInMarks .NotIn b = false) : AE X x (.Compare a [.NotIn] [b] pos) (xDIn true f g) := (pe_cmpR (o_dnotin hu) ha hb hm).imp fun _ _ _ h => tE_din h
theorem at_din (hu : X.A.units + 64 < cLine) (ha : AE X x a f) (hb : AE X x b g) (hm : behindInMarks .In b = false) : AT X x (.Compare a [.In] [b] pos) (xB (xDIn false f g)) := (pt_cmpR (o_din hu) ha hb hm).imp fun _ _ _ h => tE_din (tT_tB h)
theorem at_dnotin (hu : X.A.units + 64 < cLine) (ha : AE X x a f) (hb : AE X x b g) (hm : behindInMarks .NotIn b = false) : AT X x (.Compare a [.NotIn] [b] pos) (xB (xDIn true f g)) := (pt_cmpR (o_dnotin hu) ha hb hm).imp fun _ _ _ h => tE_din (tT_tB h)
/-- d.get(k, z) -/
@[simp] def xDGetD (f g h : Fr → Res AV) : Fr → Res AV := fun fr => (f fr).bind fun a fr1 => match fr1.dview a with
  | some _ => (g fr1).bind fun b fr2 => (h fr2).bind fun z fr3 => (match fr3.dview a, b, z with
    | some (tp, kvs), .dat k, .dat dz => if kOk tp k = true then .ok (.dat ((kfind kvs k).getD dz)) fr3 else .err
    | _, _, _ => .err)
  | none => .err
def tGD (X : Cx) (td ty tz : TE) : TE := fun σ H Q => td σ H fun xv H1 => ∃ l ok tp kvs, xv = .ref l ∧ DctR (pX X) H1 ok l tp kvs ∧ ty σ H1 fun yv H2 => tz σ H2 fun zv H3 => ∃ (ok : Addr → Prop) (tp : Bool) (kvs : List (PyData × PyData)) (k dz : PyData), DctR (pX X) H3 ok l tp kvs ∧ Rep X.K H3 ok yv k ∧ Rep X.K H3 ok zv dz ∧ kOk tp k = true ∧ ∀ v, Rep X.K H3 ok v ((kfind kvs k).getD dz) → Q v H3
theorem dct_nod {pins : List (Addr × Obj)} {σ : L2.St} {H : Hp} {s : Shared} {ok : Addr → Prop} {l : Addr} {tp : Bool} {kvs : List (PyData × PyData)} (I : Inv X pins σ H s) (hd : DctR (pX X) H ok l tp kvs) : ∃ o, s.heap.get? l = some o ∧ o.dict = none := by
  cases tp with
  | false =>
    obtain ⟨ks, e, _⟩ := hd.rd
    obtain ⟨_, _, vs, _, o, es, ep, h1, h2, _⟩ := dk_rd I.hok e
    exact ⟨o, h1, h2.2.1⟩
  | true =>
    obtain ⟨es, ep, xs, e, _⟩ := hd.tt
    obtain ⟨⟨o, h1, h2, _⟩, _⟩ := (show ObjOk X.prog X.w H s.heap l (dTh l es ep) from I.hok l _ e)
    exact ⟨o, h1, h2.2.1⟩
theorem pe_gD {td ty tz : TE} {p1 : Pos} (hu : X.A.units + 64 < cLine) (ho : PE X a td) (he : PE X b ty) (hf : PE X d tz) (m : M2 X a "get" p1 b d pos) : PE X (.Call (.Attribute a "get" p1) [b, d] [] pos) (tGD X td ty tz) := by
  refine ⟨fun pins s σ H Q I hh => ?_⟩
  refine wpAny_Call_method m.base m.few m.line PySem.F.plainAttrs_dict PySem.F.slot_dict_get PySem.F.type_dict_get (thn (ho.run pins s σ H _ I hh) fun u s1 hq => ?_)
  obtain ⟨xv, H1, I1, rx, l, ok, tp, kvs, rfl, hd, q1⟩ := hq
  cases rx
  refine ⟨dct_ty I1 hd, fun b0 e0 => by cases e0; exact dct_nod I1 hd, ?_⟩
  rw [m.trees]
  refine Calls.callWith_builtin rfl (Calls.evalArgs_plain (Calls.spliced_cons (thn (he.run pins s1 σ H1 _ I1 q1) fun iv s2 hq2 => ?_)))
  obtain ⟨yv, H2, I2, ry, q2⟩ := hq2
  refine Calls.spliced_cons (thn (hf.run pins s2 σ H2 _ I2 q2) fun fv s3 hq3 => Calls.spliced_nil ?_)
  obtain ⟨zv, H3, I3, rz, ok3, tp3, kvs3, k, dz, hd3, hr, hz, hk, q⟩ := hq3
  exact g_getD hu I3 hd3 hr ry hz rz hk q
theorem ae_dgetD {p1 : Pos} (hu : X.A.units + 64 < cLine) (ha : AE X x a f) (hb : AE X x b g) (hd : AE X x d h) (m : M2 X a "get" p1 b d pos) : AE X x (.Call (.Attribute a "get" p1) [b, d] [] pos) (xDGetD f g h) := by
  refine (pe_gD hu ha hb hd m).imp fun σ H Q ⟨c, fr, ad, F, o⟩ => ⟨c, fr, ad, F, (Out.bind F o).mono fun av fr1 ad1 H1 F1 m1 o1 v rv => ?_⟩
  cases q1 : fr1.dview av with
  | none => rw [q1] at o1; exact o1.elim
  | some z =>
    obtain ⟨tp, kvs⟩ := z
    rw [q1] at o1
    obtain ⟨l, rfl, dd⟩ := dview_rep F1 rv q1
    refine ⟨l, _, tp, kvs, rfl, dd, c, fr1, ad1, F1, (Out.bind F1 o1).mono fun bv fr2 ad2 H2 F2 m2 o2 w rw_ => ?_⟩
    refine ⟨c, fr2, ad2, F2, (Out.bind F2 o2).mono fun zv fr3 ad3 H3 F3 m3 o3 y ry => ?_⟩
    have rv3 := RepA.mv F2 m3 (RepA.mv F1 m2 rv)
    have rw3 := RepA.mv F2 m3 rw_
    cases q3 : fr3.dview av with
    | none => rw [q3] at o3; exact o3.elim
    | some z3 =>
      obtain ⟨tp3, kvs3⟩ := z3
      rw [q3] at o3
      cases bv with
      | dat k =>
        cases zv with
        | dat dz =>
          simp only at o3
          split at o3
          · rename_i hk
            obtain ⟨l3, e3, dd3⟩ := dview_rep F3 rv3 q3
            cases e3
            exact ⟨okP c ad3, tp3, kvs3, k, dz, dd3, rw3, ry, hk, fun v4 r4 => o3 ad3 H3 F3 Mv.refl v4 r4⟩
          · exact o3.elim
        | _ => exact o3.elim
      | _ => exact o3.elim
end
end G
/-! GO: enumerate and zip over lists and tuples. -/
namespace G
open PySem PySem.Spec PyProof.Rows L2

def SqB (K : PySem.W.Frag) : Bool → Hp → Addr → List V → Prop
  | true, H, a, xs => SqL K H a xs
  | false, H, a, xs => SqT K H a xs
def IterB : Bool → Heap → Addr → Addr → Nat → Prop
  | true, h, it, a, i => h.IsListIter it a i
  | false, h, it, a, i => h.IsTupleIter it a i
def IsB : Bool → Heap → Addr → Array Value → Prop
  | true, h, a, items => h.IsList a items
  | false, h, a, items => h.IsTuple a items
section
variable {prog : Program} {w : World} {A : Around} {h h' : Heap} {it a : Addr} {i : Nat} {l : Bool}
theorem IterB.at (st : IterB l h it a i) (k : ∀ o, h.get? it = some o → h'.get? it = some o) : IterB l h' it a i := by
  cases l with
  | true => exact Heap.IsListIter.at st k
  | false => exact Heap.IsTupleIter.at st k
theorem IterB.there (st : IterB l h it a i) : ∃ o, h.get? it = some o ∧ ∀ v, o.data ≠ .cell v := by
  cases l with
  | true => obtain ⟨o, e, c, d⟩ := st; exact ⟨o, e, fun v z => by rw [d] at z; cases z⟩
  | false => obtain ⟨o, e, c, d⟩ := st; exact ⟨o, e, fun v z => by rw [d] at z; cases z⟩
theorem drawsB (l : Bool) (hh : A.handled = none) (it a : Addr) (hne : a ≠ it) (items : Array Value) :
    Draws prog w A it [it, a] items.size (fun i v => items[i]? = some v) (fun i h => IterB l h it a i ∧ IsB l h a items) := by
  cases l with
  | true => exact Draws.list hh it a hne items
  | false => exact Draws.tuple hh it a hne items
def objB (l : Bool) (a : Addr) : Obj := if l = true then { cls := .type "list_iterator", data := .fields #[.ref a, .int 0 0] } else { cls := .type "tuple_iterator", data := .fields #[.ref a, .int 0 0] }
theorem beginsB (l : Bool) (a : Addr) (items : Array Value) : Begins (.ref a) (objB l a) fun h => IsB l h a items := by
  cases l with
  | true => exact begins_list a items
  | false => exact begins_tuple a items
theorem iterB_new (l : Bool) (a : Addr) (e : h.get? it = some (objB l a)) : IterB l h it a 0 := by
  cases l with
  | true => exact ⟨_, e, rfl, rfl⟩
  | false => exact ⟨_, e, rfl, rfl⟩
end
section
variable {X : Cx} {pins : List (Addr × Obj)} {σ : L2.St} {H : Hp} {s : Shared} {l : Bool} {a : Addr} {xs ys : List V}
theorem seqB (I : Inv X pins σ H s) (h : SqB X.K l H a xs) : ∃ its, Vals xs its ∧ IsB l s.heap a its.toArray ∧ a < s.heap.objs.size := by
  cases l with
  | true =>
    obtain ⟨its, r, p, _⟩ := I.list h
    exact ⟨its, r, p.isList, p.lt⟩
  | false =>
    obtain ⟨its, r, p, _⟩ := I.tuple h
    refine ⟨its, r, p, ?_⟩
    obtain ⟨o, e, _⟩ := p
    exact Heap.lt_size e
theorem injB (I : Inv X pins σ H s) (h : SqB X.K l H a xs) (h2 : SqB X.K l H a ys) : xs = ys := by
  cases l with
  | true => exact I.list_inj h h2
  | false => exact I.tuple_inj h h2
end

/-! ### enumerate -/
theorem meets_enum1 {v : Value} {o : Obj} {H : Heap → Prop} (B : Begins v o H) :
    Meets (Builtin.«enumerate.__new__» ⟨[.type "enumerate", v], []⟩) (fun _ R s => H s.heap ∧
      R (.ok (.ret (.ref (s.heap.push o).objs.size))) { s with heap := (s.heap.push o).push { cls := .type "enumerate", data := .fields #[.none, .bool false, .ref s.heap.objs.size, rawInt 0, .none, .none] } }) :=
  .of_wp fun prog w A R s h => by
    obtain ⟨hp, g, d, tk, os⟩ := s; obtain ⟨h1, h⟩ := h
    have hsub := sub_enumerate
    have q1 : ∀ {A' : Around} {E : Value → Shared → Prop} {Q : Value → Shared → Prop}, Q (.ref hp.objs.size) ⟨hp.push o, g, d, tk, os⟩ → wpAny (model prog w) A' (pyIter v) Q E ⟨hp, g, d, tk, os⟩ :=
      fun q => B.iter prog w _ _ ⟨hp, g, d, tk, os⟩ _ h1 q
    wp_walk using q1
    refine wpAny_stack_any fun st => wpAny_pure ?_
    split
    · rename_i c _ _ _ _ _
      cases (c == Value.type "enumerate")
      · wp_walk using q1
        exact ⟨_, rfl, h⟩
      · wp_walk using q1
        exact ⟨_, rfl, h⟩
    · wp_walk using q1
      exact ⟨_, rfl, h⟩
theorem call_enum1 {prog : Program} {w : World} {A : Around} {E : Value → Shared → Prop} {s : Shared} {v : Value} {o : Obj} {H : Heap → Prop} {Q : Value → Shared → Prop} (B : Begins v o H) (h1 : H s.heap)
    (h : ∀ h', IsEnum h' (s.heap.objs.size + 1) s.heap.objs.size 0 .none → h'.get? s.heap.objs.size = some o → h'.objs.size = s.heap.objs.size + 2 →
      (∀ b o, s.heap.get? b = some o → h'.get? b = some o) → Q (.ref (s.heap.objs.size + 1)) { s with heap := h' }) :
    wpAny (model prog w) A (call (.type "enumerate") [v]) Q E s := by
  refine callType_new F.called_enumerate (by decide) (F.typeCall_enumerate_1 _) (F.newCall_enumerate_1 _) (fun obj => F.args_object_init_2 obj _) F.entry_enumerate_new
    (meets_enum1 B) ⟨h1, ?_⟩
  have hz : (s.heap.push o).objs.size = s.heap.objs.size + 1 := Heap.size_push ..
  show _ ∧ _
  rw [hz]
  have he : IsEnum ((s.heap.push o).push { cls := .type "enumerate", data := .fields #[.none, .bool false, .ref s.heap.objs.size, rawInt 0, .none, .none] }) (s.heap.objs.size + 1) s.heap.objs.size 0 .none := by
    have := Heap.get?_push_size (s.heap.push o) (o := { cls := .type "enumerate", data := .fields #[.none, .bool false, .ref s.heap.objs.size, rawInt 0, .none, .none] }) rfl
    rw [hz] at this; exact this
  refine ⟨⟨_, he, rfl⟩, h _ he (Heap.get?_push_of_some _ (Heap.get?_push_size _ B.free)) (by rw [Heap.size_push, hz]) fun b o x => Heap.get?_push_of_some _ (Heap.get?_push_of_some _ x)⟩
def IteB (K : PySem.W.Frag) (l : Bool) (a : Addr) : It :=
  ⟨fun i H => ∃ (xs : List V) (x : V), SqB K l H a xs ∧ xs[i]? = some x, fun i H v H' => ∃ T x, v = .ref T ∧ H T = none ∧ H' = upd H T (.tup [.int (i : Nat), x]) ∧ ∀ xs, SqB K l H a xs → xs[i]? = some x, fun i H => ∃ xs : List V, SqB K l H a xs ∧ xs.length = i⟩
theorem turn_enumB {P : Program} {w : World} {K : PySem.W.Frag} {elts : List Expr} {kk : Nat} {tpos : Pos} (l : Bool) (a e it : Addr) :
    Turn P w K (.Tuple elts kk tpos) (IteB K l a) [e, it] e (fun i h => (∃ old, IsEnum h e it ((i : Nat) : Int) old) ∧ IterB l h it a i ∧ e ≠ it ∧ e ≠ a ∧ a ≠ it) where
  mem := by simp
  obj := fun i h st b hb => by
    obtain ⟨⟨old, he⟩, hi, _⟩ := st
    have e' : b = e ∨ b = it := by simpa using hb
    rcases e' with z | z
    · rw [z]; exact ⟨_, he, fun v q => nomatch q⟩
    · rw [z]; exact hi.there
  keep := fun i h h' st k => let ⟨⟨old, he⟩, hi, hne⟩ := st; ⟨⟨old, k e (by simp) _ he⟩, hi.at fun o q => k it (by simp) o q, hne⟩
  item := by
    intro X hP hw hK hc i pins s σ H E I hf st hg
    subst hP hw hK
    obtain ⟨⟨old, he⟩, hit, hne, hea, hai⟩ := st
    obtain ⟨xs, x, hq, hx⟩ := hg
    obtain ⟨its, rv, p, hz⟩ := seqB I hq
    obtain ⟨u0, hu, ru⟩ := rv.get hx
    have hel : e < s.heap.objs.size := Heap.lt_size he
    have hil : it < s.heap.objs.size := by obtain ⟨_, q, _⟩ := hit.there; exact Heap.lt_size q
    have D := drawsB (prog := X.prog) (w := X.w) (A := X.A.in1) l (I.ok.hd hc) it a hai its.toArray
    have hlt : i < its.toArray.size := by
      have := lt_of_at hu
      simpa using this
    refine wpAny_pyNext_enum_itemC D he ⟨hit, p⟩ hlt hne (by simp [hne, hea]) fun u h' tk hPx ho hit' hT hsz hk => ?_
    have eu : u = u0 := by
      have : its[i]? = some u := by simpa using hPx
      rw [hu] at this; exact (Option.some.inj this).symm
    subst eu
    refine ⟨_, rfl, wpAny_letOwnedTupleGo_enum (s := { s with heap := h', toks := tk + 1 }) ho fun h'' he' sb => ?_⟩
    have hT2 : h''.get? s.heap.objs.size = some { cls := .type "tuple", data := .seq #[.int i tk, u] } := (sb.2 _ (Nat.ne_of_gt hel)).trans hT
    have new : ObjOk X.prog X.w (upd H s.heap.objs.size (.tup [.int (i : Nat), x])) h'' s.heap.objs.size (.tup [.int (i : Nat), x]) :=
      ⟨by show 2 ≤ sizeLine; decide, [.int i tk, u], .cons ⟨_, rfl⟩ (.cons ru .nil), ⟨_, hT2, rfl, _, rfl⟩⟩
    have I1 : Inv X pins σ (upd H s.heap.objs.size (.tup [.int (i : Nat), x])) { s with heap := h'', toks := tk + 1 } :=
      I.turnedNew (ch := [e, it]) (fun b ob hb q => (sb.2 b (fun z => hb (by simp [z]))).trans (hk b ob (fun z => hb (by simp [z])) (fun z => hb (by simp [z])) q)) hf (Nat.le_refl _) new
    refine ⟨.ref s.heap.objs.size, _, I1, rfl, ⟨_, x, rfl, I.hok.fresh (Nat.le_refl _), rfl, fun ys hy => by rw [injB I hy hq]; exact hx⟩, ⟨⟨u, ?_⟩, hit'.1.at fun o q => (sb.2 it (Ne.symm hne)).trans q, hne, hea, hai⟩, fun b hb => ?_⟩
    · have e1 : ((i + 1 : Nat) : Int) = (i : Int) + 1 := by omega
      rw [e1]; exact he'
    · have hb' : b < s.heap.objs.size := by
        have e' : b = e ∨ b = it := by simpa using hb
        rcases e' with z | z
        · rw [z]; exact hel
        · rw [z]; exact hil
      rw [upd_ne (Nat.ne_of_lt hb')]
      exact (hf b hb).1
  done := by
    intro X hP hw hK hc i pins s σ H E I hf st hg
    subst hP hw hK
    obtain ⟨⟨old, he⟩, hit, hne, hea, hai⟩ := st
    obtain ⟨xs, hq, hx⟩ := hg
    obtain ⟨its, rv, p, hz⟩ := seqB I hq
    obtain ⟨f0, f1, f2, f3, f4, f5⟩ := hf it (by simp)
    have hl := rv.length
    have D := drawsB (prog := X.prog) (w := X.w) (A := X.A.in1) l (I.ok.hd hc) it a hai its.toArray
    have en : its.toArray.size = i := by simp; omega
    refine wpAny_pyNext_enum_endD D he (by rw [en]; exact ⟨hit, p⟩) fun h' eb => ⟨rfl, I.turned (t' := s.toks) (fun b o hb q => eb b o hb q) f0 f1 f3 f4 f5⟩
  self := fun A i s Q E st h => let ⟨⟨_, he⟩, _⟩ := st; wpAny_pyIter_enum he h
/-- a list or a tuple, by its data -/
@[simp] def seqD : PyData → Option (Bool × List PyData)
  | .list ys => some (true, ys)
  | .tuple ys => some (false, ys)
  | _ => none
theorem seqD_rep {K : PySem.W.Frag} {H : Hp} {ok : Addr → Prop} {v : V} {y : PyData} {l : Bool} {ys : List PyData} (r : Rep K H ok v y) (e : seqD y = some (l, ys)) : ∃ a xs, v = .ref a ∧ SqB K l H a xs ∧ RepL K H ok xs ys := by
  cases y with
  | list zs => cases e; obtain ⟨a, xs, h1, h2, _, h3⟩ := RepB.list (.inl r); exact ⟨a, xs, h1, h2, h3⟩
  | tuple zs => cases e; obtain ⟨a, xs, h1, h2, _, h3⟩ := RepB.tuple (.inl r); exact ⟨a, xs, h1, h2, h3⟩
  | _ => cases e
def enumD (ys : List PyData) : List PyData := ys.zipIdx.map fun q => .tuple [.int (q.2 : Nat), q.1]
theorem enumD_at {ys : List PyData} {i : Nat} {y : PyData} (e : (enumD ys)[i]? = some y) : ∃ x, ys[i]? = some x ∧ y = .tuple [.int (i : Nat), x] := by
  unfold enumD at e
  rw [List.getElem?_map, List.getElem?_zipIdx] at e
  cases q : ys[i]? with
  | none => rw [q] at e; cases e
  | some x => rw [q] at e; simp at e; exact ⟨x, rfl, e.symm⟩
theorem enumD_len {ys : List PyData} : (enumD ys).length = ys.length := by simp [enumD]
theorem two_ok : 2 ≤ sizeLine := by rw [sizeLine_eq]; decide
theorem sqB_inj {K : PySem.W.Frag} {H : Hp} {ok : Addr → Prop} {a : Addr} {y : PyData} {l : Bool} {ys : List PyData} (r : Rep K H ok (.ref a) y) (e : seqD y = some (l, ys)) : ∃ xs, SqB K l H a xs ∧ RepL K H ok xs ys := by
  obtain ⟨b, xs, h1, h2, h3⟩ := seqD_rep r e
  cases h1
  exact ⟨xs, h2, h3⟩
theorem wk_enum {p : Par} {a : Addr} {y : PyData} {l : Bool} {ys : List PyData} (e : seqD y = some (l, ys)) : Wk p (IteB p.K l a) [(.ref a, .dat y)] (enumD ys) where
  go := fun ok H i z hq e2 => by
    obtain ⟨xs, h1, h2⟩ := sqB_inj (hq (.ref a, .dat y) (by simp)) e
    obtain ⟨x, h3, rfl⟩ := enumD_at e2
    obtain ⟨v, h4, h5⟩ := h2.get h3
    refine ⟨⟨xs, v, h1, h4⟩, fun w H' hy => ?_⟩
    obtain ⟨T, v2, rfl, hn, rfl, hy⟩ := hy
    have h6 := hy xs h1
    rw [h4] at h6; cases h6
    have gr : Grow H (upd H T (.tup [.int (i : Nat), v])) := Grow.new hn
    exact ⟨gr, .tup (SqT.of upd_same) two_ok (.cons (.int _) (.cons (h5.keep gr.keep) .nil))⟩
  stop := fun ok H hq => by
    obtain ⟨xs, h1, h2⟩ := sqB_inj (hq (.ref a, .dat y) (by simp)) e
    exact ⟨xs, h1, by rw [h2.length, enumD_len]⟩
@[simp] def xEnum (f : Fr → Res AV) : Fr → Res (List PyData) := fun fr => (f fr).bind fun a fr1 => match a with
  | .dat y => (match seqD y with
    | some (_, ys) => .ok (enumD ys) fr1
    | none => .err)
  | _ => .err
section
variable {X : Cx} {x : XW} {e : Expr} {f : Fr → Res AV}
def iEnumB (X : Cx) (ta : TA) : TI := fun σ H R => ta σ H fun vs H1 => ∃ a l xs, vs = [.ref a] ∧ SqB X.K l H1 a xs ∧ R (IteB X.K l a) H1
theorem pi_enumB {ta : TA} {p pos tpos : Pos} {elts : List Expr} {kk : Nat} (hg : Gl X "enumerate") (hm : X.mg "enumerate" = none) (ha : PA X [e] ta) (hs : starEach [e] X.env = [(false, eval e X.env)] := by rfl) :
    PI X (.Tuple elts kk tpos) (.Call (.Name "enumerate" p) [e] [] pos) (iEnumB X ta) := by
  refine ⟨fun pins s σ H R I h => ?_⟩
  refine Call_ (ld_blt I hg hm boot_enumerate (PyProof.Rows.callWith_type1 (thn (ha.run pos pins s σ H _ I h) fun us s1 ⟨vs, H1, I1, r1, q1⟩ => ?_) hs rfl))
  obtain ⟨a, l, xs, ex, hq, q⟩ := q1
  subst ex
  cases r1 with
  | cons r rr =>
    cases rr
    cases r
    obtain ⟨its, rv, p', hz⟩ := seqB I1 hq
    refine call_enum1 (beginsB l a its.toArray) p' fun h' he hit hsz hk => wpAny_pyIter_enum he ?_
    have I2 : Inv X pins σ H1 { s1 with heap := h' } := I1.kept (t' := s1.toks) hk
    have ha : a ≠ s1.heap.objs.size := Nat.ne_of_lt hz
    have ha1 : s1.heap.objs.size + 1 ≠ a := Nat.ne_of_gt (Nat.lt_succ_of_lt hz)
    refine ⟨s1.heap.objs.size + 1, [s1.heap.objs.size + 1, s1.heap.objs.size], _, _, H1, rfl, I2, turn_enumB l a (s1.heap.objs.size + 1) s1.heap.objs.size, ⟨⟨.none, he⟩, iterB_new l a hit, Nat.succ_ne_self _, ha1, ha⟩, fun b hb => ?_, q⟩
    have e' : b = s1.heap.objs.size + 1 ∨ b = s1.heap.objs.size := by simpa using hb
    have hle : s1.heap.objs.size ≤ b := by
      rcases e' with z | z
      · rw [z]; exact Nat.le_add_right _ _
      · rw [z]; exact Nat.le_refl _
    exact I1.fpOk hle (I1.hok.fresh hle)
theorem ai_enum {p pos tpos : Pos} {elts : List Expr} {kk : Nat} (hg : Gl X "enumerate") (hm : X.mg "enumerate" = none) (ha : AE X x e f) (hs : starEach [e] X.env = [(false, eval e X.env)] := by rfl) :
    AI X x (.Tuple elts kk tpos) (.Call (.Name "enumerate" p) [e] [] pos) (xEnum f) := by
  have hw := pi_enumB (elts := elts) (kk := kk) (tpos := tpos) (p := p) (pos := pos) hg hm (pa_cons ha pa_nil hs) hs
  refine ⟨fun pins s σ H R I hh => hw.run pins s σ H R I ?_⟩
  obtain ⟨c, fr, ad, F, o⟩ := hh
  refine ⟨c, fr, ad, F, (Out.bind F o).mono fun av fr1 ad1 H1 F1 m1 o1 v rv => ?_⟩
  cases av with
  | dat y =>
    cases q : seqD y with
    | none => simp only [q] at o1; exact o1.elim
    | some z =>
      obtain ⟨l, ys⟩ := z
      simp only [q] at o1
      obtain ⟨a, xs, rfl, h1, h2⟩ := seqD_rep rv q
      exact ⟨a, l, xs, rfl, h1, o1 ad1 H1 F1 Mv.refl _ [(.ref a, .dat y)] (fun z hz => by cases List.mem_singleton.mp hz; exact ⟨rfl, rv⟩) (wk_enum q)⟩
  | _ => exact o1.elim
end

/-! ### zip -/
def ItzB (K : PySem.W.Frag) (l m : Bool) (a b : Addr) : It :=
  ⟨fun i H => ∃ (xs ys : List V) (x y : V), SqB K l H a xs ∧ SqB K m H b ys ∧ xs[i]? = some x ∧ ys[i]? = some y,
    fun i H v H' => ∃ T x y, v = .ref T ∧ H T = none ∧ H' = upd H T (.tup [x, y]) ∧ (∀ xs, SqB K l H a xs → xs[i]? = some x) ∧ ∀ ys, SqB K m H b ys → ys[i]? = some y,
    fun i H => ∃ xs ys : List V, SqB K l H a xs ∧ SqB K m H b ys ∧ i ≤ xs.length ∧ i ≤ ys.length ∧ (i = xs.length ∨ i = ys.length)⟩
theorem turn_zipB {P : Program} {w : World} {K : PySem.W.Frag} {elts : List Expr} {kk : Nat} {tpos : Pos} {l m : Bool} {a b z TI TO i1 i2 : Addr} (S : ZipSep2 z TI TO i1 i2 [i1, a] [i2, b]) (ha : a ≠ i1) (hb : b ≠ i2) :
    Turn P w K (.Tuple elts kk tpos) (ItzB K l m a b) [z, TI, TO, i1, i2] z (fun i h => IsZip h z TI TO .none ∧ IsTupOf2 h TI (.ref i1) (.ref i2) ∧ (∃ x y, IsTupOf2 h TO x y) ∧ IterB l h i1 a i ∧ IterB m h i2 b i) where
  mem := by simp
  obj := fun i h st c hc => by
    obtain ⟨hz, hTI, ⟨x, y, hTO⟩, h1, h2⟩ := st
    have e' : c = z ∨ c = TI ∨ c = TO ∨ c = i1 ∨ c = i2 := by simpa using hc
    rcases e' with q | q | q | q | q
    · rw [q]; exact ⟨_, hz, fun v q => nomatch q⟩
    · rw [q]; exact ⟨_, hTI, fun v q => nomatch q⟩
    · rw [q]; exact ⟨_, hTO, fun v q => nomatch q⟩
    · rw [q]; exact h1.there
    · rw [q]; exact h2.there
  keep := fun i h h' st k => by
    obtain ⟨hz, hTI, ⟨x, y, hTO⟩, h1, h2⟩ := st
    exact ⟨k z (by simp) _ hz, k TI (by simp) _ hTI, ⟨x, y, k TO (by simp) _ hTO⟩, h1.at fun o q => k i1 (by simp) o q, h2.at fun o q => k i2 (by simp) o q⟩
  item := by
    intro X hP hw hK hc i pins s σ H E I hf st hg
    subst hP hw hK
    obtain ⟨hz, hTI, ⟨x0, y0, hTO⟩, h1, h2⟩ := st
    obtain ⟨xs, ys, x, y, hqx, hqy, hx, hy⟩ := hg
    obtain ⟨its, rv, p, _⟩ := seqB I hqx
    obtain ⟨its2, rv2, p2, _⟩ := seqB I hqy
    obtain ⟨u0, hu, ru⟩ := rv.get hx
    obtain ⟨u20, hu2, ru2⟩ := rv2.get hy
    have hzl : z < s.heap.objs.size := Heap.lt_size hz
    have D1 := drawsB (prog := X.prog) (w := X.w) (A := X.A.in1) l (I.ok.hd hc) i1 a ha its.toArray
    have D2 := drawsB (prog := X.prog) (w := X.w) (A := X.A.in1) m (I.ok.hd hc) i2 b hb its2.toArray
    refine wpAny_pyNext_zipD2_item S D1 D2 hz hTI hTO ⟨h1, p⟩ ⟨h2, p2⟩ (by simpa using lt_of_at hu) (by simpa using lt_of_at hu2) fun u u2 h' tk e1 e2 z' TO' h1' h2' hT hsz hk => ?_
    have eu : u = u0 := by
      have : its[i]? = some u := by simpa using e1
      rw [hu] at this; exact (Option.some.inj this).symm
    have eu2 : u2 = u20 := by
      have : its2[i]? = some u2 := by simpa using e2
      rw [hu2] at this; exact (Option.some.inj this).symm
    subst eu eu2
    refine ⟨_, rfl, wpAny_letOwnedTupleGo_zip (s := { s with heap := h', toks := tk }) z' fun h'' z'' sb => ?_⟩
    have hT2 : h''.get? s.heap.objs.size = some { cls := .type "tuple", data := .seq #[u, u2] } := (sb.2 _ (Nat.ne_of_gt hzl)).trans hT
    have new : ObjOk X.prog X.w (upd H s.heap.objs.size (.tup [x, y])) h'' s.heap.objs.size (.tup [x, y]) :=
      ⟨by show 2 ≤ sizeLine; decide, [u, u2], .cons ru (.cons ru2 .nil), ⟨_, hT2, rfl, _, rfl⟩⟩
    have I1 : Inv X pins σ (upd H s.heap.objs.size (.tup [x, y])) { s with heap := h'', toks := tk } :=
      I.turnedNew (ch := [z, TI, TO, i1, i2]) (fun c o hb q => (sb.2 c (fun q' => hb (by simp [q']))).trans (hk c o (fun q' => hb (by simp [q'])) (fun q' => hb (by simp [q'])) (fun q' => hb (by simp [q'])) (fun q' => hb (by simp [q'])) q)) hf (Nat.le_refl _) new
    have i1z : i1 ≠ z := fun e => S.zf1 (by simp [e])
    have i2z : i2 ≠ z := fun e => S.zf2 (by simp [e])
    refine ⟨.ref s.heap.objs.size, _, I1, rfl, ⟨_, x, y, rfl, I.hok.fresh (Nat.le_refl _), rfl, fun l hl => by rw [injB I hl hqx]; exact hx, fun l hl => by rw [injB I hl hqy]; exact hy⟩, ⟨z'', ?_, ⟨u, u2, ?_⟩, ?_, ?_⟩, fun c hcm => ?_⟩
    · exact (sb.2 _ S.TIz).trans (hk _ _ S.TIz S.TITO S.TIi1 S.TIi2 hTI)
    · exact (sb.2 _ S.TOz).trans TO'
    · exact h1'.1.at fun o q => (sb.2 _ i1z).trans q
    · exact h2'.1.at fun o q => (sb.2 _ i2z).trans q
    · have hlt : c < s.heap.objs.size := by
        have e' : c = z ∨ c = TI ∨ c = TO ∨ c = i1 ∨ c = i2 := by simpa using hcm
        rcases e' with q | q | q | q | q
        · rw [q]; exact hzl
        · rw [q]; exact Heap.lt_size hTI
        · rw [q]; exact Heap.lt_size hTO
        · rw [q]; obtain ⟨_, e1, _⟩ := h1.there; exact Heap.lt_size e1
        · rw [q]; obtain ⟨_, e2, _⟩ := h2.there; exact Heap.lt_size e2
      rw [upd_ne (Nat.ne_of_lt hlt)]
      exact (hf c hcm).1
  done := by
    intro X hP hw hK hc i pins s σ H E I hf st hg
    subst hP hw hK
    obtain ⟨hz, hTI, ⟨x0, y0, hTO⟩, h1, h2⟩ := st
    obtain ⟨xs, ys, hqx, hqy, b1, b2, hend⟩ := hg
    obtain ⟨its, rv, p, _⟩ := seqB I hqx
    obtain ⟨its2, rv2, p2, _⟩ := seqB I hqy
    have l1 := rv.length
    have l2 := rv2.length
    have D1 := drawsB (prog := X.prog) (w := X.w) (A := X.A.in1) l (I.ok.hd hc) i1 a ha its.toArray
    have D2 := drawsB (prog := X.prog) (w := X.w) (A := X.A.in1) m (I.ok.hd hc) i2 b hb its2.toArray
    exact wpAny_pyNext_zipD2_end S D1 D2 hz hTI hTO ⟨h1, p⟩ ⟨h2, p2⟩ (by simp; omega) (by simp; omega) (by simp; omega) fun h' tk hk => ⟨rfl, I.turnedL (t' := tk) (ch := [z, TI, TO, i1, i2]) (fun c o hb q =>
      hk c o (fun q' => hb (by simp [q'])) (fun q' => hb (by simp [q'])) (fun q' => hb (by simp [q'])) (fun q' => hb (by simp [q'])) q) hf⟩
  self := fun A i s Q E st h => wpAny_pyIter_zip st.1 h
def zipD (xs ys : List PyData) : List PyData := (xs.zip ys).map fun q => .tuple [q.1, q.2]
theorem zipD_at {xs ys : List PyData} {i : Nat} {y : PyData} (e : (zipD xs ys)[i]? = some y) : ∃ x z, xs[i]? = some x ∧ ys[i]? = some z ∧ y = .tuple [x, z] := by
  unfold zipD at e
  rw [List.getElem?_map] at e
  cases q : (xs.zip ys)[i]? with
  | none => rw [q] at e; cases e
  | some z =>
    rw [q] at e
    obtain ⟨h1, h2⟩ := List.getElem?_zip_eq_some.mp q
    exact ⟨_, _, h1, h2, (Option.some.inj e).symm⟩
theorem zipD_len {xs ys : List PyData} : (zipD xs ys).length = min xs.length ys.length := by simp [zipD]
theorem wk_zip {p : Par} {a b : Addr} {y z : PyData} {l m : Bool} {ys zs : List PyData} (e : seqD y = some (l, ys)) (e2 : seqD z = some (m, zs)) : Wk p (ItzB p.K l m a b) [(.ref a, .dat y), (.ref b, .dat z)] (zipD ys zs) where
  go := fun ok H i u hq eu => by
    obtain ⟨xs, h1, h2⟩ := sqB_inj (hq (.ref a, .dat y) (by simp)) e
    obtain ⟨xs2, g1, g2⟩ := sqB_inj (hq (.ref b, .dat z) (by simp)) e2
    obtain ⟨x, x2, h3, g3, rfl⟩ := zipD_at eu
    obtain ⟨v, h4, h5⟩ := h2.get h3
    obtain ⟨v2, g4, g5⟩ := g2.get g3
    refine ⟨⟨xs, xs2, v, v2, h1, g1, h4, g4⟩, fun w H' hy => ?_⟩
    obtain ⟨T, w1, w2, rfl, hn, rfl, hy1, hy2⟩ := hy
    have h6 := hy1 xs h1
    have g6 := hy2 xs2 g1
    rw [h4] at h6; cases h6
    rw [g4] at g6; cases g6
    have gr : Grow H (upd H T (.tup [v, v2])) := Grow.new hn
    exact ⟨gr, .tup (SqT.of upd_same) two_ok (.cons (h5.keep gr.keep) (.cons (g5.keep gr.keep) .nil))⟩
  stop := fun ok H hq => by
    obtain ⟨xs, h1, h2⟩ := sqB_inj (hq (.ref a, .dat y) (by simp)) e
    obtain ⟨xs2, g1, g2⟩ := sqB_inj (hq (.ref b, .dat z) (by simp)) e2
    have e1 := h2.length
    have e2 := g2.length
    refine ⟨xs, xs2, h1, g1, ?_, ?_, ?_⟩ <;> rw [zipD_len] <;> omega
@[simp] def xZip (f g : Fr → Res AV) : Fr → Res (List PyData) := fun fr => (f fr).bind fun a fr1 => (g fr1).bind fun b fr2 => match a, b with
  | .dat y, .dat z => (match seqD y, seqD z with
    | some (_, ys), some (_, zs) => .ok (zipD ys zs) fr2
    | _, _ => .err)
  | _, _ => .err
section
variable {X : Cx} {x : XW} {e e2 : Expr} {f g : Fr → Res AV}
def iZipB (X : Cx) (ta : TA) : TI := fun σ H R => ta σ H fun vs H1 => ∃ a b l m xs ys, vs = [.ref a, .ref b] ∧ SqB X.K l H1 a xs ∧ SqB X.K m H1 b ys ∧ R (ItzB X.K l m a b) H1
theorem pi_zipB {ta : TA} {p pos tpos : Pos} {elts : List Expr} {kk : Nat} (hg : Gl X "zip") (hm : X.mg "zip" = none) (ha : PA X [e, e2] ta)
    (hs : starEach [e, e2] X.env = (false, eval e X.env) :: starEach [e2] X.env := by rfl) (hpl : (backTo pos (starEach [e2] X.env)).any (·.1) = false := by rfl) :
    PI X (.Tuple elts kk tpos) (.Call (.Name "zip" p) [e, e2] [] pos) (iZipB X ta) := by
  refine ⟨fun pins s σ H R I h => ?_⟩
  refine Call_ (ld_blt I hg hm PyProof.Rows.boot_zip (PyProof.Rows.callWith_type1 (thn (ha.run pos pins s σ H _ I h) fun us s1 ⟨vs, H1, I1, r1, q1⟩ => ?_) hs hpl))
  obtain ⟨a, b, l, m, xs, ys, ex, hqx, hqy, q⟩ := q1
  subst ex
  cases r1 with
  | cons r rr =>
    cases rr with
    | cons r' rr =>
      cases rr
      cases r
      cases r'
      obtain ⟨its, rv, p1, la⟩ := seqB I1 hqx
      obtain ⟨its2, rv2, p2, lb⟩ := seqB I1 hqy
      refine zip_begins2 (beginsB l a its.toArray) (beginsB m b its2.toArray) p1 p2 fun h' hz hTI hTO h1 h2 hsz hk => wpAny_pyIter_zip hz ?_
      have I2 : Inv X pins σ H1 { s1 with heap := h' } := I1.kept (t' := s1.toks) hk
      have la' : (a : Nat) < s1.heap.objs.size := la
      have lb' : (b : Nat) < s1.heap.objs.size := lb
      refine ⟨s1.heap.objs.size + 4, [s1.heap.objs.size + 4, s1.heap.objs.size + 2, s1.heap.objs.size + 3, s1.heap.objs.size, s1.heap.objs.size + 1], _, _, H1, rfl, I2,
        turn_zipB (zip_sep2 (N := s1.heap.objs.size) (fp1 := [a]) (fp2 := [b]) (fun c hc => by cases List.mem_singleton.mp hc; exact la) (fun c hc => by cases List.mem_singleton.mp hc; exact lb)) (Nat.ne_of_lt la') (Nat.ne_of_lt (Nat.lt_succ_of_lt lb')),
        ⟨hz, hTI, ⟨_, _, hTO⟩, iterB_new l a h1, iterB_new m b h2⟩, fun c hcm => ?_, q⟩
      have e' : c = s1.heap.objs.size + 4 ∨ c = s1.heap.objs.size + 2 ∨ c = s1.heap.objs.size + 3 ∨ c = s1.heap.objs.size ∨ c = s1.heap.objs.size + 1 := by simpa using hcm
      have hle : s1.heap.objs.size ≤ c := by
        rcases e' with z | z | z | z | z
        · rw [z]; exact Nat.le_add_right _ _
        · rw [z]; exact Nat.le_add_right _ _
        · rw [z]; exact Nat.le_add_right _ _
        · rw [z]; exact Nat.le_refl _
        · rw [z]; exact Nat.le_add_right _ _
      exact I1.fpOk hle (I1.hok.fresh hle)
theorem ai_zip {p pos tpos : Pos} {elts : List Expr} {kk : Nat} (hg : Gl X "zip") (hm : X.mg "zip" = none) (ha : AE X x e f) (hb : AE X x e2 g)
    (hs : starEach [e, e2] X.env = (false, eval e X.env) :: starEach [e2] X.env := by rfl) (hs2 : starEach [e2] X.env = [(false, eval e2 X.env)] := by rfl) (hpl : (backTo pos (starEach [e2] X.env)).any (·.1) = false := by rfl) :
    AI X x (.Tuple elts kk tpos) (.Call (.Name "zip" p) [e, e2] [] pos) (xZip f g) := by
  have hw := pi_zipB (elts := elts) (kk := kk) (tpos := tpos) (p := p) (pos := pos) hg hm (pa_cons ha (pa_cons hb pa_nil hs2) hs) hs hpl
  refine ⟨fun pins s σ H R I hh => hw.run pins s σ H R I ?_⟩
  obtain ⟨c, fr, ad, F, o⟩ := hh
  refine ⟨c, fr, ad, F, (Out.bind F o).mono fun av fr1 ad1 H1 F1 m1 o1 v rv => ?_⟩
  refine ⟨c, fr1, ad1, F1, (Out.bind F1 o1).mono fun bv fr2 ad2 H2 F2 m2 o2 u ru => ?_⟩
  cases av with
  | dat y =>
    cases bv with
    | dat z =>
      have rv2 : Rep X.K H2 (okP c ad2) v y := Rep.keep (m2.kp F1) rv
      cases q : seqD y with
      | none => simp only [q] at o2; exact o2.elim
      | some qy =>
        cases q2 : seqD z with
        | none => simp only [q, q2] at o2; exact o2.elim
        | some qz =>
          obtain ⟨l, ys⟩ := qy
          obtain ⟨m, zs⟩ := qz
          simp only [q, q2] at o2
          obtain ⟨a, xs, rfl, h1, h2⟩ := seqD_rep rv2 q
          obtain ⟨b, xs2, rfl, g1, g2⟩ := seqD_rep ru q2
          exact ⟨a, b, l, m, xs, xs2, rfl, h1, g1, o2 ad2 H2 F2 Mv.refl _ [(.ref a, .dat y), (.ref b, .dat z)] (fun z hz => by
            rcases List.mem_cons.mp hz with e | e
            · cases e; exact ⟨rfl, rv2⟩
            · cases List.mem_singleton.mp e; exact ⟨rfl, ru⟩) (wk_zip q q2)⟩
    | _ => exact o2.elim
  | _ => cases bv <;> exact o2.elim
end
end G
/-! GP: new cells as values, lists from calls, several names at once, dicts written. -/
namespace G
open PySem PySem.Spec PyProof.Rows L2

/-! ### new cells -/
@[simp] def xNewL (gs : Fr → Res (List AV)) : Fr → Res AV := fun fr => (gs fr).bind fun as fr1 => match dats as with
  | some xs => .ok (.cel fr1.cells.length) (fr1.newc (.lst xs))
  | none => .err
@[simp] def xNewD (tp : Bool) : Fr → Res AV := fun fr => .ok (.cel fr.cells.length) (fr.newc (.dct tp []))
section
variable {X : Cx} {x : XW} {a b d : Expr} {f g h : Fr → Res AV} {pos : Pos}
theorem newc_at {p : Par} {c : Ent} {fr : Fr} {ad : List (Option Addr)} {σ : L2.St} {H H2 : Hp} {cl : Cell} (F : FR p c fr ad σ H) {l : Addr} : RepA p H2 (okP c (ad ++ [some l])) (ad ++ [some l]) (.ref l) (.cel fr.cells.length) :=
  ⟨l, rfl, by rw [F.clen]; simp⟩
theorem ae_newL {es : List Expr} {gs : Fr → Res (List AV)} (ha : AA X x es gs) (hl : es.length ≤ 1000 := by decide) (hn : ∀ fr as fr', gs fr = .ok as fr' → as.length = es.length) : AE X x (.List es pos) (xNewL gs) := by
  refine (pe_lst ha).imp fun σ H Q ⟨c, fr, ad, F, o⟩ => ⟨c, fr, ad, F, ?_⟩
  have o4 := Out.bind F o
  cases q : gs fr with
  | ok as fr1 =>
    rw [q] at o4
    intro ad1 H1 F1 m1 vs rvs
    have o5 := o4 ad1 H1 F1 m1
    have hlen := hn fr as fr1 q
    cases q2 : dats as with
    | none => simp only [q2] at o5; exact o5.elim
    | some xs =>
      simp only [q2] at o5
      have rl := dats_rep rvs q2
      have e1 : vs.length = as.length := Paired.length rvs
      have e2 := rl.length
      have z : vs.length ≤ sizeLine := by rw [sizeLine_eq]; omega
      refine ⟨z, fun p hp => ?_⟩
      have F2 := F1.newc (o := .lst vs) (cl := .lst xs) hp fun ok hok => ⟨vs, upd_same, by rw [← e2]; exact z, rl.keep ⟨fun b u h1 h2 => ⟨hok b u h1 h2, Grow.new hp b u h2⟩, (Grow.new hp).keep (ok := okP c ad1) |>.t⟩⟩
      exact o5 _ _ F2 (mv_new hp) _ (newc_at (cl := .gone) F1)
  | exc cl fs fr1 => rw [q] at o4; exact o4
  | err => rw [q] at o4; exact o4
theorem ae_newD (tp : Bool) : AE X x (.Dict [] [] pos) (xNewD tp) := by
  cases tp with
  | false =>
    refine pe_dnewK.imp fun σ H Q ⟨c, fr, ad, F, o⟩ p hp => ?_
    have F2 := F.newc (o := .dK []) (cl := .dct false []) hp fun ok hok => ⟨[], upd_same, .nil⟩
    exact o _ _ F2 (mv_new hp) _ (newc_at (cl := .gone) F)
  | true =>
    refine pe_newT.imp fun σ H Q ⟨c, fr, ad, F, o⟩ p hp hm => ?_
    have F2 := F.newc (o := dTh p #[] 0) (cl := .dct true []) hp fun ok hok => ⟨#[], 0, [], upd_same, rfl, List.nodup_nil, hm, Nat.zero_le _, .nil⟩
    exact o _ _ F2 (mv_new hp) _ (newc_at (cl := .gone) F)

/-! ### data without lists -/
mutual
def noL : PyData → Bool
  | .tuple xs => noLs xs
  | .list _ => false
  | .dict _ => false
  | _ => true
def noLs : List PyData → Bool
  | [] => true
  | x :: xs => noL x && noLs xs
end
mutual
theorem Rep.any {K : PySem.W.Frag} {H : Hp} {ok ok' : Addr → Prop} : ∀ {v : V} {y : PyData}, Rep K H ok v y → noL y = true → Rep K H ok' v y
  | _, _, .non, _ => .non
  | _, _, .bl b, _ => .bl b
  | _, _, .int i, _ => .int i
  | _, _, .str z h, _ => .str z h
  | _, _, .lst _ _ _ _, e => by simp [noL] at e
  | _, _, .tup r l rs, e => .tup r l (RepL.any rs (by simpa [noL] using e))
theorem RepL.any {K : PySem.W.Frag} {H : Hp} {ok ok' : Addr → Prop} : ∀ {vs : List V} {ys : List PyData}, RepL K H ok vs ys → noLs ys = true → RepL K H ok' vs ys
  | _, _, .nil, _ => .nil
  | _, _, .cons r rs, e => by
    simp only [noLs, Bool.and_eq_true] at e
    exact .cons (Rep.any r e.1) (RepL.any rs e.2)
end
@[simp] def noLA : AV → Bool
  | .dat y => noL y
  | .cel _ => true
  | _ => false
def noLC : Cell → Bool
  | .lst xs => noLs xs
  | .dct _ kvs => kvs.all fun q => noL q.1 && noL q.2
  | .gone => false
theorem CellAt.any {p : Par} {H : Hp} {ok ok' : Addr → Prop} {a : Addr} : ∀ {cl : Cell}, CellAt p H ok a cl → noLC cl = true → CellAt p H ok' a cl
  | .lst ds, ⟨xs, h1, h2, h3⟩, e => ⟨xs, h1, h2, h3.any e⟩
  | .dct false kvs, ⟨ks, e, r⟩, hn => by
    refine ⟨ks, e, ?_⟩
    have hn' : kvs.all (fun q => noL q.1 && noL q.2) = true := hn
    clear e hn
    induction r with
    | nil => exact .nil
    | cons h _ ih =>
      rw [List.all_cons, Bool.and_eq_true] at hn'
      exact .cons ⟨h.1, h.2.1, h.2.2.any (Bool.and_eq_true_iff.mp hn'.1).2⟩ (ih hn'.2)
  | .dct true kvs, ⟨es, ep, xs, e, h1, h2, h3, h4, r⟩, hn => by
    have hn' : kvs.all (fun q => noL q.1 && noL q.2) = true := hn
    refine ⟨es, ep, xs, e, h1, h2, h3, h4, ?_⟩
    clear e h1 h2 h3 h4 hn
    induction r with
    | nil => exact .nil
    | cons h _ ih =>
      rw [List.all_cons, Bool.and_eq_true] at hn'
      obtain ⟨q1, q2, q3, v, q4, q5⟩ := h
      have z := Bool.and_eq_true_iff.mp hn'.1
      exact .cons ⟨q1, q2, q3.any z.1, v, q4, q5.any z.2⟩ (ih hn'.2)
  | .gone, r, _ => r.elim

/-! ### a list that a call hands out, to be written on -/
@[simp] def xCallF (m : AFun) (gs : Fr → Res (List AV)) : Fr → Res AV := fun fr => (gs fr).bind fun as fr1 => if as.all noLA = true ∧ (celsOf as).Nodup then (match getAll fr1.cells (celsOf as) with
  | some cs => if cs.all noLC = true then (match m (relab 0 as) cs with
    | .ok (.dat (.list ys)) cs' => if noLs ys = true ∧ cs'.all noLC = true then .ok (.cel fr1.cells.length) ((⟨fr1.vars, putAll fr1.cells (celsOf as) cs', fr1.base⟩ : Fr).newc (.lst ys)) else .err
    | .ok (.dat .none) cs' => .ok (.dat .none) ⟨fr1.vars, putAll fr1.cells (celsOf as) cs', fr1.base⟩
    | .ok _ _ => .err
    | .exc c fs cs' => .exc c fs ⟨fr1.vars, putAll fr1.cells (celsOf as) cs', fr1.base⟩
    | .err => .err) else .err
  | none => .err) else .err
theorem noScr_of : ∀ {as : List AV}, as.all noLA = true → noScr as = true
  | [], _ => rfl
  | .dat y :: as, e => noScr_of (as := as) (by rw [List.all_cons, Bool.and_eq_true] at e; exact e.2)
  | .cel k :: as, e => noScr_of (as := as) (by rw [List.all_cons, Bool.and_eq_true] at e; exact e.2)
  | .dct _ _ :: as, e => by cases e
  | .scr _ :: as, e => by cases e
  | .brd _ _ _ :: as, e => by cases e
theorem relab_any {p : Par} {H : Hp} {ok ok' : Addr → Prop} {ad : List (Option Addr)} : ∀ {vs : List V} {as : List AV}, RepAs p H ok ad vs as → as.all noLA = true → RepAs p H ok' ad vs as
  | _, _, .nil, _ => .nil
  | _, .dat y :: as, .cons r rs, e => by
    rw [List.all_cons, Bool.and_eq_true] at e
    exact .cons (Rep.any r e.1) (relab_any rs e.2)
  | _, .cel k :: as, .cons r rs, e => by
    rw [List.all_cons, Bool.and_eq_true] at e
    exact .cons r (relab_any rs e.2)
  | _, .dct _ _ :: as, .cons r rs, e => by cases e
  | _, .scr _ :: as, .cons r rs, e => by cases e
  | _, .brd _ _ _ :: as, .cons r rs, e => by cases e
theorem call_adopt {p : Par} {c : Ent} {fr : Fr} {ad : List (Option Addr)} {σ : L2.St} {H H' : Hp} {W : List Addr} {ids : List Nat} {cs' : List Cell} {la : Addr} {xs : List V} {ys : List PyData} {ok : Addr → Prop} (F : FR p c fr ad σ H) (nd : ids.Nodup) (hW : ∀ (j i : Nat), ids[j]? = some i → ∃ a, W[j]? = some a ∧ ad[i]? = some (some a)) (hl : W.length = ids.length)
    (P : PostF p H (fun _ => False) W cs' H') (hc : cs'.all noLC = true) (e : H' la = some (.lst xs)) (hfree : H la = none) (rl : RepL p.K H' ok xs ys) (hn : noLs ys = true) (hz : ys.length ≤ sizeLine) :
    FR p c ((⟨fr.vars, putAll fr.cells ids cs', fr.base⟩ : Fr).newc (.lst ys)) (ad ++ [some la]) σ H' ∧ Mv H ad H' (ad ++ [some la]) := by
  obtain ⟨F2, m2, _⟩ := call_end F nd hW hl (S := fun _ => False) (fun b hb _ => hb.elim) P
  have nad : some la ∉ ad := fun z => by
    obtain ⟨u, e, _⟩ := F.track z
    rw [hfree] at e; cases e
  have M3 : Mv H ad H' (ad ++ [some la]) := ⟨m2.keep, fun i x e => snoc_pre e, fun a h => by
    rcases List.mem_append.mp h with z | z
    · exact .inl z
    · have q : a = la := by simpa using z
      exact .inr (by rw [q]; exact hfree), m2.there⟩
  refine ⟨⟨F.len, fun i av q => ?_, by simp [Fr.newc, putAll_len, F.clen], fun i a q => ?_, fun i j a q1 q2 => ?_, F2.old, fun i a q => snoc_pre (F.sub i a q), fun a h => ?_, fun g hg => ⟨(F.gh g hg).1, RepA.mv F M3 (F.gh g hg).2⟩, M3.prs F, F.bs⟩, M3⟩
  · obtain ⟨v, h1, h2⟩ := F.var i av q
    exact ⟨v, h1, RepA.mv F M3 h2⟩
  · rcases snoc_at q with q | ⟨hi, q⟩
    · by_cases hm : i ∈ ids
      · obtain ⟨cl, h1, h2⟩ := F2.cel i a q
        refine ⟨cl, snoc_pre h1, CellAt.any h2 ?_⟩
        obtain ⟨j, hj⟩ := mem_at hm
        obtain ⟨b, g1, g2⟩ := hW j i hj
        obtain ⟨cl2, g3, _⟩ := P.cel j b g1
        have g4 := putAll_in (cs := fr.cells) nd hj g3 (by rw [F.clen]; exact lt_of_at q)
        have h1' : (putAll fr.cells ids cs')[i]? = some cl := h1
        rw [g4] at h1'
        cases h1'
        exact List.all_eq_true.mp hc _ (List.mem_of_getElem? g3)
      · obtain ⟨cl, h1, h2⟩ := F.cel i a q
        refine ⟨cl, snoc_pre (by rw [show (⟨fr.vars, putAll fr.cells ids cs', fr.base⟩ : Fr).cells = putAll fr.cells ids cs' from rfl, putAll_out hm]; exact h1), ?_⟩
        have na : a ∉ W := fun hw => by
          obtain ⟨j, e1⟩ := mem_at hw
          have hj : j < ids.length := by rw [← hl]; exact lt_of_at e1
          obtain ⟨b, h3, h4⟩ := hW j ids[j] (by rw [List.getElem?_eq_getElem hj])
          rw [e1] at h3; cases h3
          have := F.nd _ i a h4 q
          exact hm (by rw [← this]; exact List.getElem_mem hj)
        have kp : ∀ o, H a = some o → H' a = some o := fun o z => P.keep a o z na
        cases cl with
        | lst ds =>
          obtain ⟨xs, q1, q2, q3⟩ := h2
          exact ⟨xs, kp _ q1, q2, q3.keep (M3.kp F)⟩
        | dct tp kvs => exact DctAt.keep (M3.kp F) kp h2
        | gone => exact h2
    · cases q
      refine ⟨.lst ys, ?_, xs, e, hz, rl.any hn⟩
      rw [Fr.newc, hi, ← F.clen]
      have : (putAll fr.cells ids cs').length = fr.cells.length := putAll_len
      rw [← this]
      simp
  · rcases snoc_at q1 with z1 | ⟨i1, z1⟩
    · rcases snoc_at q2 with z2 | ⟨i2, z2⟩
      · exact F.nd i j a z1 z2
      · cases z2; exact absurd (List.mem_of_getElem? z1) nad
    · cases z1
      rcases snoc_at q2 with z2 | ⟨i2, z2⟩
      · exact absurd (List.mem_of_getElem? z2) nad
      · omega
  · rcases List.mem_append.mp h with z | z
    · exact F.adw a z
    · have q : a = la := by simpa using z
      subst q
      exact .inr (he_new F hfree)
theorem tE_callF {m : AFun} {n : Nat} {gs : Fr → Res (List AV)} {σ : L2.St} {H : Hp} {Q : VK} (hn : ∀ fr as fr', gs fr = .ok as fr' → as.length = n) (h : tE (pX X) x (xCallF m gs) σ H Q) : tA (pX X) x gs σ H fun vs H1 => spF (pX X) x.C m n vs H1 Q fun C d H' => x.W C d σ H' := by
  obtain ⟨c, fr, ad, F, o⟩ := h
  refine ⟨c, fr, ad, F, ?_⟩
  unfold xCallF at o
  cases qg : gs fr with
  | exc cl fs fr1 => rw [qg] at o; exact o
  | err => rw [qg] at o; exact o
  | ok as fr1 =>
    have o2 := Out.bind F o
    rw [qg] at o2
    intro ad1 H1 F1 m1 vs rvs
    have o0 := o2 ad1 H1 F1 m1
    refine ⟨by rw [Paired.length rvs]; exact hn fr as fr1 qg, ?_⟩
    simp only at o0
    split at o0
    rotate_left
    · exact o0.elim
    rename_i hnl
    obtain ⟨hnl, nd⟩ := hnl
    have hsc := noScr_of hnl
    cases q1 : getAll fr1.cells (celsOf as) with
    | none => rw [q1] at o0; exact o0.elim
    | some cs =>
      rw [q1] at o0
      simp only at o0
      split at o0
      rotate_left
      · exact o0.elim
      rename_i hncs
      obtain ⟨lW, hW⟩ := celAds_at rvs
      obtain ⟨lc, hcs⟩ := getAll_at q1
      have ndW : (celAds ad1 as).Nodup := by
        unfold List.Nodup
        rw [List.pairwise_iff_getElem]
        intro j k hj hk hjk e
        have hk' : k < (celsOf as).length := by rw [← lW]; exact hk
        have hj' : j < (celsOf as).length := by omega
        obtain ⟨b1, h1, h2⟩ := hW j (celsOf as)[j] (by rw [List.getElem?_eq_getElem hj'])
        obtain ⟨b2, h3, h4⟩ := hW k (celsOf as)[k] (by rw [List.getElem?_eq_getElem hk'])
        rw [List.getElem?_eq_getElem hj] at h1
        rw [List.getElem?_eq_getElem hk] at h3
        have eb : b1 = b2 := by rw [← Option.some.inj h1, ← Option.some.inj h3]; exact e
        subst eb
        have := F1.nd _ _ _ h2 h4
        have := (List.getElem_inj nd).mp this
        omega
      refine ⟨fun _ => False, celAds ad1 as, relab 0 as, cs, relab_rep (ok := fun _ => False) (fun a z => z.elim) (relab_any rvs hnl) hsc fun j b e => by rw [Nat.zero_add]; exact e, ndW, by rw [lc, lW], fun i b e => ?_, ?_⟩
      · have hi : i < (celsOf as).length := by rw [← lW]; exact lt_of_at e
        obtain ⟨b', h1, h2⟩ := hW i (celsOf as)[i] (by rw [List.getElem?_eq_getElem hi])
        rw [e] at h1; cases h1
        obtain ⟨cl, h3, h4⟩ := hcs i (celsOf as)[i] (by rw [List.getElem?_eq_getElem hi])
        obtain ⟨cl', h5, h6⟩ := F1.cel _ b h2
        rw [h3] at h5; cases h5
        exact ⟨cl, h4, h6.any (List.all_eq_true.mp hncs cl (List.mem_of_getElem? h4))⟩
      · cases q2 : m (relab 0 as) cs with
        | ok r cs' =>
          rw [q2] at o0
          intro v H2 P rv
          cases r with
          | dat y =>
            cases y with
            | list ys =>
              simp only at o0
              split at o0
              rotate_left
              · exact o0.elim
              rename_i hny
              have rv' : Rep X.K H2 (okF H1 (fun _ => False) (celAds ad1 as)) v (.list ys) := rv
              cases rv' with
              | @lst la xs _ okl hl hz rl =>
                have hfree : H1 la = none := by
                  rcases okl.1 with z | z
                  · exact z
                  · exact z.elim
                obtain ⟨F3, M3⟩ := call_adopt F1 nd hW lW P hny.2 hl hfree rl hny.1 hz
                exact o0 _ _ F3 M3 _ (newc_at (cl := .gone) F1)
            | none =>
              obtain ⟨F2, m2, okk⟩ := call_end F1 nd hW lW (S := fun _ => False) (fun b hb _ => hb.elim) P
              have rv' : Rep X.K H2 (okF H1 (fun _ => False) (celAds ad1 as)) v .none := rv
              cases rv'
              exact o0 ad1 H2 F2 m2 _ .non
            | _ => exact o0.elim
          | _ => exact o0.elim
        | exc cl fs cs' =>
          rw [q2] at o0
          intro Cv d H2 P hx
          obtain ⟨F2, m2, okk⟩ := call_end F1 nd hW lW (S := fun _ => False) (fun b hb _ => hb.elim) P
          exact o0 ad1 H2 Cv d F2 m2 hx
        | err => rw [q2] at o0; exact o0.elim
theorem ae_callF {CX : CXT} {k j : Nat} {n : Str} {m : AFun} {es : List Expr} {gs : Fr → Res (List AV)} {p1 : Pos} {np : Nat} (D : DefF X.prog X.w X.K X.mg X.base CX x.C k n np m) (hr : Room j X.A) (hk : k ≤ j) (hx : ∀ σ, PassesAt CX X σ fun C d H' => x.W C d σ H') (hg : Gl X n) (ha : AA X x (a :: es) gs) (hn : ∀ fr as fr', gs fr = .ok as fr' → as.length = np)
    (hdb : (n == ("__debug__" : Str)) = false := by decide) (he : starEach (a :: es) X.env = (false, eval a X.env) :: starEach es X.env := by rfl) (hpl : (backTo pos (starEach es X.env)).any (·.1) = false := by rfl) :
    AE X x (.Call (.Name n p1) (a :: es) [] pos) (xCallF m gs) := by
  obtain ⟨f, fd, ps, F, hm, kp, b⟩ := D.ex
  refine (pe_callSD F (hr.mono hk) hg hm kp b .nil (E := fun σ C d H' => x.W C d σ H') hx ha hdb he hpl).imp fun σ H Q h => ?_
  have z := tE_callF hn h
  unfold tCallSD
  simpa only [List.append_nil] using z

/-! ### several names at once -/
@[simp] def sPar (i j : Nat) (gs : Fr → Res (List AV)) : Fr → SRes := fun fr => (gs fr).toS fun as fr1 => match as with
  | [a, b] => .nx ((fr1.setv i (some a)).setv j (some b))
  | _ => .err
@[simp] def sPar3 (i j l : Nat) (gs : Fr → Res (List AV)) : Fr → SRes := fun fr => (gs fr).toS fun as fr1 => match as with
  | [a, b, c] => .nx (((fr1.setv i (some a)).setv j (some b)).setv l (some c))
  | _ => .err
theorem as_par {i j : Nat} {n m : Str} {gs : Fr → Res (List AV)} {px py pt : Pos} {kt k2 pt2} (hc : X.calm = true) (hN : X.N.Nodup) (hi : X.N[i]? = some n) (hj : X.N[j]? = some m) (hij : i ≠ j)
    (hx : X.env.scope.names.lookup n = some .local) (hy : X.env.scope.names.lookup m = some .local) (ha : AA X x [a, b] gs)
    (hw : swappedStores [.Tuple [.Name n px, .Name m py] kt pt] (.Tuple [a, b] k2 pt2) X.env = pure (some [n, m]))
    (hs : swapsWithSole [.Tuple [.Name n px, .Name m py] kt pt] (.Tuple [a, b] k2 pt2) pos.line X.env = pure false := by rfl) :
    AS X x (.Assign [.Tuple [.Name n px, .Name m py] kt pt] (.Tuple [a, b] k2 pt2) pos) (sPar i j gs) := by
  refine (ps_par hc hN hi hj hij hx hy ha hw hs).imp fun D σ H ⟨c, fr, ad, F, o⟩ => ⟨c, fr, ad, F, (SOut.of F o).mono fun as fr1 ad1 H1 F1 m1 o1 vs rvs => ?_⟩
  match as, o1, rvs with
  | [a1, b1], o1, .cons r1 (.cons r2 .nil) => exact ⟨_, _, rfl, o1 ad1 _ H1 ((F1.setv r1).setv r2)⟩
  | [], o1, _ => exact o1.elim
  | [_], o1, _ => exact o1.elim
  | _ :: _ :: _ :: _, o1, _ => exact o1.elim
theorem as_par3 {i j l : Nat} {n m k : Str} {e1 e2 e3 : Expr} {gs : Fr → Res (List AV)} {px py pz pt : Pos} {kt k2 pt2} (hc : X.calm = true) (hN : X.N.Nodup) (hi : X.N[i]? = some n) (hj : X.N[j]? = some m) (hl : X.N[l]? = some k) (hij : i ≠ j) (hil : i ≠ l) (hjl : j ≠ l)
    (hx : X.env.scope.names.lookup n = some .local) (hy : X.env.scope.names.lookup m = some .local) (hz : X.env.scope.names.lookup k = some .local) (ha : AA X x [e1, e2, e3] gs)
    (hw : swappedStores [.Tuple [.Name n px, .Name m py, .Name k pz] kt pt] (.Tuple [e1, e2, e3] k2 pt2) X.env = pure (some [n, m, k]))
    (hs : swapsWithSole [.Tuple [.Name n px, .Name m py, .Name k pz] kt pt] (.Tuple [e1, e2, e3] k2 pt2) pos.line X.env = pure false := by rfl) :
    AS X x (.Assign [.Tuple [.Name n px, .Name m py, .Name k pz] kt pt] (.Tuple [e1, e2, e3] k2 pt2) pos) (sPar3 i j l gs) := by
  refine (ps_par3 hc hN hi hj hl hij hil hjl hx hy hz ha hw hs).imp fun D σ H ⟨c, fr, ad, F, o⟩ => ⟨c, fr, ad, F, (SOut.of F o).mono fun as fr1 ad1 H1 F1 m1 o1 vs rvs => ?_⟩
  match as, o1, rvs with
  | [a1, b1, c1], o1, .cons r1 (.cons r2 (.cons r3 .nil)) => exact ⟨_, _, _, rfl, o1 ad1 _ H1 (((F1.setv r1).setv r2).setv r3)⟩
  | [], o1, _ => exact o1.elim
  | [_], o1, _ => exact o1.elim
  | [_, _], o1, _ => exact o1.elim
  | _ :: _ :: _ :: _ :: _, o1, _ => exact o1.elim
/-- a target that takes a value apart -/
@[simp] def sAsg (g : Tg) (f : Fr → Res AV) : Fr → SRes := fun fr => (f fr).toS fun a fr1 => match a with
  | .dat y => (match g y fr1 with
    | some fr2 => .nx fr2
    | none => .err)
  | _ => .err
theorem as_asg {tg e : Expr} {is : List Nat} {g : Tg} (ha : AE X x e f) (hg : AG X tg is g) (hs : swapsWithSole [tg] e pos.line X.env = pure false := by rfl) (hw : swappedStores [tg] e X.env = pure none := by rfl)
    (h1 : (assignEach [tg] X.env).map (·.2) = [assign tg X.env] := by rfl) : AS X x (.Assign [tg] e pos) (sAsg g f) := by
  refine (ps_asg ha hg hs hw h1).imp fun D σ H ⟨c, fr, ad, F, o⟩ => ⟨c, fr, ad, F, (SOut.of F o).mono fun av fr1 ad1 H1 F1 m1 o1 v rv => ?_⟩
  cases av with
  | dat y =>
    cases q : g y fr1 with
    | none => simp only [q] at o1; exact o1.elim
    | some fr2 =>
      simp only [q] at o1
      exact ⟨c, fr1, ad1, y, fr2, F1, rv, q, fun σ' F' _ => o1 ad1 σ' H1 F'⟩
  | _ => exact o1.elim

/-! ### d[k] = v, the dict one's own -/
@[simp] def sDSet (i : Nat) (fi fv : Fr → Res AV) : Fr → SRes := fun fr => (fv fr).toS fun a fr1 => match fr1.vars[i]? with
  | some (some (.cel k)) => (fi fr1).toS fun b fr2 => (match a, b, fr2.cells[k]? with
    | .dat y, .dat z, some (.dct tp kvs) => if kOk tp z = true ∧ kvs.length < 1000000 then .nx (fr2.putc k (.dct tp (kput kvs z y))) else .err
    | _, _, _ => .err)
  | _ => .err
def rSetD (X : Cx) : TSet := fun o i v H Q => ∃ (ok : Addr → Prop) (l : Addr) (tp : Bool) (kvs : List (PyData × PyData)) (k dv : PyData), o = .ref l ∧ DctAt (pX X) H ok l tp kvs ∧ (∀ b, ok b → b ≠ l) ∧ Rep X.K H ok i k ∧ Rep X.K H ok v dv ∧ kOk tp k = true ∧ kvs.length < 1000000 ∧
  ∀ o, Keep H (upd H l o) ok ok → DctAt (pX X) (upd H l o) ok l tp (kput kvs k dv) → Q (upd H l o)
theorem set_dict (hu : X.A.units + 64 < cLine) : PSet X (rSetD X) := by
  intro pins s σ H o i v ov iv u Q I ro ri rv hh
  obtain ⟨ok, l, tp, kvs, k, dv, rfl, hd, hne, hk, hv, ho, hl, q⟩ := hh
  cases ro
  exact g_set hu I hd hne hk ri hv rv ho hl q
theorem cell_dct {p : Par} {c : Ent} {fr : Fr} {ad : List (Option Addr)} {σ : L2.St} {H : Hp} (F : FR p c fr ad σ H) {k : Nat} {l : Addr} {tp : Bool} {kvs : List (PyData × PyData)} (e : ad[k]? = some (some l)) (q : fr.cells[k]? = some (.dct tp kvs)) : DctAt p H (okP c ad) l tp kvs := by
  obtain ⟨cl, h1, h2⟩ := F.cel k l e
  rw [q] at h1; cases h1
  exact h2
theorem as_dset {i : Nat} {n : Str} {p1 p2 : Pos} (hu : X.A.units + 64 < cLine) (hN : X.N[i]? = some n) (hv : Vis X.env.scope n) (hb : AE X x b g) (ha : AE X x a f) (hd : (n == ("__debug__" : Str)) = false := by decide) (hcd : (n == ("__classdict__" : Str)) = false := by decide)
    (hsub : ∀ v, assign (.Subscript (.Name n p1) b p2) X.env v = (do
      let ov ← holding [v] (eval (.Name n p1) X.env)
      let iv ← holding [v, ov] (eval b X.env)
      standAt p2
      holding [v, ov, iv] (setItem ov iv v)
      release [v, ov, iv] []) := by intro _; rfl)
    (hs : swapsWithSole [.Subscript (.Name n p1) b p2] a pos.line X.env = pure false := by rfl) (hw : swappedStores [.Subscript (.Name n p1) b p2] a X.env = pure none := by rfl)
    (h1 : (assignEach [.Subscript (.Name n p1) b p2] X.env).map (·.2) = [assign (.Subscript (.Name n p1) b p2) X.env] := by rfl) : AS X x (.Assign [.Subscript (.Name n p1) b p2] a pos) (sDSet i g f) := by
  refine (ps_asg ha (pg_sub (pe_var hN hv hd hcd) hb (set_dict hu) hsub) hs hw h1).imp fun D σ H ⟨c, fr, ad, F, o⟩ => ⟨c, fr, ad, F, (SOut.of F o).mono fun av fr1 ad1 H1 F1 m1 o1 v rv => ?_⟩
  cases q : fr1.vars[i]? with
  | none => rw [q] at o1; exact o1.elim
  | some w =>
    rw [q] at o1
    cases w with
    | none => exact o1.elim
    | some aw =>
      obtain ⟨vw, e1, e2⟩ := F1.var i aw q
      cases aw with
      | cel k =>
        obtain ⟨l, rfl, hl⟩ := e2
        refine ⟨_, e1, c, fr1, ad1, F1, (SOut.of F1 o1).mono fun bv fr2 ad2 H2 F2 m2 o2 w rw_ => ?_⟩
        have rv2 := RepA.mv F1 m2 rv
        cases av with
        | dat y =>
          cases bv with
          | dat yb =>
            cases q2 : fr2.cells[k]? with
            | none => simp only [q2] at o2; exact o2.elim
            | some cl =>
              cases cl with
              | dct tp kvs =>
                simp only [q2] at o2
                split at o2
                rotate_left
                · exact o2.elim
                rename_i hh
                have e3 := m2.pre k _ hl
                have dd := cell_dct F2 e3 q2
                have m := List.mem_of_getElem? e3
                refine ⟨okP c ad2, l, tp, kvs, yb, y, rfl, dd, fun b hb z => hb.2 (by rw [z]; exact m), rw_, rv2, hh.1, hh.2, fun o kp d2 => ?_⟩
                exact o2 _ _ _ (F2.putc e3 (wr_td dd) d2)
              | _ => simp only [q2] at o2; exact o2.elim
          | _ => exact o2.elim
        | _ => cases bv <;> exact o2.elim
      | _ => exact o1.elim
end
end G
/-! GQ: sorted. -/
namespace G
open PySem PySem.Spec PyProof.Rows L2

abbrev srtLe : PyData → PyData → Bool := PySem.W.dataLe false (fun d : PyData => d)
def allAlike (ds : List PyData) : Bool := ds.all fun x => ds.all fun y => PySem.W.alike x y
def tupB : PyData → Bool
  | .tuple (_ :: _) => true
  | _ => false
def plainB : PyData → Bool
  | .tuple _ => false
  | .none => false
  | _ => true
def sortOk (ds : List PyData) : Bool := decide (ds.length ≤ 1000000) && allAlike ds && (ds.all tupB || ds.all plainB) && ds.all fun d => decide (d.depth ≤ 32)
def dSortL (ds : List PyData) : Option PyData := if sortOk ds = true then some (.list (ds.mergeSort srtLe)) else none
theorem allAlike_of {ds : List PyData} (h : allAlike ds = true) : PySem.W.AllAlike ds := fun x hx y hy => List.all_eq_true.mp (List.all_eq_true.mp h x hx) y hy
theorem sortable_of {ds : List PyData} (h : (ds.all tupB || ds.all plainB) = true) : PySem.W.Sortable ds := by
  rcases Bool.or_eq_true_iff.mp h with h | h
  · left
    intro d hd
    have := List.all_eq_true.mp h d hd
    cases d with
    | tuple xs => cases xs with
      | nil => cases this
      | cons x r => exact ⟨x, r, rfl⟩
    | _ => cases this
  · right
    intro d hd
    have := List.all_eq_true.mp h d hd
    refine ⟨fun e => ?_, fun xs e => ?_⟩
    · subst e; cases this
    · subst e; cases this
section
variable {X : Cx}
theorem each_of {K : PySem.W.Frag} {H : Hp} {ok : Addr → Prop} : ∀ {ws : List V} {vs : List Value} {ds : List PyData}, Vals ws vs → RepL K H ok ws ds → PySem.W.EachIs (fun v d => ∃ w, RelV w v ∧ Rep K H ok w d) vs ds
  | _, _, _, .nil, .nil => .nil
  | _, _, _, .cons r rs, .cons q qs => .cons ⟨_, r, q⟩ (each_of rs qs)
theorem of_each {K : PySem.W.Frag} {H : Hp} {ok : Addr → Prop} : ∀ {vs : List Value} {ds : List PyData}, PySem.W.EachIs (fun v d => ∃ w, RelV w v ∧ Rep K H ok w d) vs ds → ∃ ws, Vals ws vs ∧ RepL K H ok ws ds
  | _, _, .nil => ⟨[], .nil, .nil⟩
  | _, _, .cons ⟨w, r, q⟩ es => by
    obtain ⟨ws, h1, h2⟩ := of_each es
    exact ⟨w :: ws, .cons r h1, .cons q h2⟩
theorem sorted_inv {pins : List (Addr × Obj)} {σ : L2.St} {H : Hp} {s : Shared} {v : Value} {ds : List PyData} {Q : VK} (hu : X.A.units + 64 < cLine) (hok : sortOk ds = true) (I : Inv X pins σ H s)
    (hcol : wpAny (model X.prog X.w) X.A.in1 (collect v) (fun vs s1 => ∃ H1 ok1 ws, Inv X pins σ H1 s1 ∧ Vals ws vs ∧ RepL X.K H1 ok1 ws ds ∧ ∀ ws' p, H1 p = none → RepL X.K H1 ok1 ws' (ds.mergeSort srtLe) → Q (.ref p) (upd H1 p (.lst ws'))) X.xe s) :
    wpAny (model X.prog X.w) X.A (call (.builtin "sorted") [v]) (EP X pins σ Q) X.xe s := by
  unfold sortOk at hok
  simp only [Bool.and_eq_true] at hok
  obtain ⟨⟨⟨h1, h2⟩, h3⟩, h4⟩ := hok
  have hl := of_decide_eq_true h1
  refine Calls.call_function_entry PyProof.Rows.kind_sorted PyProof.Rows.plain_sorted PyProof.Rows.entry_sorted (PyProof.Rows.args_sorted1 _) ?_
  unfold Builtin.«sorted»
  refine wpAny_bind (m := checkCount "sorted" 1 1 _) (wpAny_pure ?_)
  refine wpAny_bind (thn hcol fun vs s1 hq => ?_)
  obtain ⟨H1, ok1, ws, I1, rv, rl, q⟩ := hq
  have lv : vs.length = ds.length := by rw [← rv.length, rl.length]
  have hz : vs.length ≤ sizeLine := by rw [sizeLine_eq]; omega
  refine wpAny_bind (wpAny_newList ?_ hz)
  have hoL : (s1.heap.push (seqObj "list" vs.toArray 0)).get? s1.heap.objs.size = some (seqObj "list" vs.toArray 0) := Heap.get?_push_size _ rfl
  show wpAny _ _ _ _ _ { s1 with heap := s1.heap.push (seqObj "list" vs.toArray 0) }
  have er : PySem.W.EachIs (fun v d => ∃ as, Reads (PySem.W.sortingHeap (s1.heap.push (seqObj "list" vs.toArray 0)) s1.heap.objs.size vs) v d as) vs ds := by
    refine (each_of rv rl).mono fun v d ⟨w, r1, r2⟩ => ?_
    obtain ⟨as, r⟩ := Dp.reads I1 d w v r2.dp r1
    exact ⟨as, PyProof.Rows.Reads.keeps (fun b o e => PySem.W.sortingHeap_old (Nat.ne_of_lt (Heap.lt_size e)) (Heap.get?_push_of_some _ e)) r⟩
  have S := PySem.W.SortsAt.data (prog := X.prog) (w := X.w) (A := X.A.in1.in1) (s := { s1 with heap := PySem.W.sortingHeap (s1.heap.push (seqObj "list" vs.toArray 0)) s1.heap.objs.size vs }) er (allAlike_of h2) (sortable_of h3) (fun d hd => by
    have e := of_decide_eq_true (List.all_eq_true.mp h4 d hd)
    show X.A.units + 1 + 1 + d.depth < cLine
    omega)
  refine wpAny_bind (wpAny_holding (wpAny_call_entry PyProof.Rows.slot_list_sort ⟨_, hoL, rfl⟩ PyProof.Rows.entry_list_sort
    (PySem.W.list_sort_vals (s := { s1 with heap := s1.heap.push (seqObj "list" vs.toArray 0) }) hoL S hz ⟨_, rfl, ?_⟩) (PyProof.Rows.args_list_sort _)))
  have eo : PySem.W.EachIs (fun v d => ∃ w, RelV w v ∧ Rep X.K H1 ok1 w d) (PySem.W.sortVals (PySem.W.dataKind (PySem.W.sortingHeap (s1.heap.push (seqObj "list" vs.toArray 0)) s1.heap.objs.size vs) ds) false vs vs) (ds.mergeSort srtLe) := by
    have z := PySem.W.sortVals_data (enc := fun d : PyData => d) false (each_of rv rl) er (by simpa using allAlike_of h2)
    simpa using z
  obtain ⟨ws', g1, g2⟩ := of_each eo
  obtain ⟨e', he'⟩ := PyProof.Rows.sortedHeap_at (vs := vs) (out := (PySem.W.sortVals (PySem.W.dataKind (PySem.W.sortingHeap (s1.heap.push (seqObj "list" vs.toArray 0)) s1.heap.objs.size vs) ds) false vs vs).toArray) hoL
  have hlen : ws'.length ≤ sizeLine := by
    rw [g2.length, List.length_mergeSort]
    rw [sizeLine_eq]; omega
  refine wpAny_pure ⟨_, rfl, .ref s1.heap.objs.size, upd H1 s1.heap.objs.size (.lst ws'), I1.laid (t' := s1.toks) (fun b u e => ?_) (Nat.le_refl _)
    (show ObjOk X.prog X.w _ _ _ (.lst ws') from ⟨hlen, _, e', g1, he'⟩), rfl, q _ _ (I1.hok.fresh (Nat.le_refl _)) g2⟩
  have hb : b < s1.heap.objs.size := Heap.lt_size e
  rw [PyProof.Rows.sortedHeap_old (Nat.ne_of_lt hb) (by rw [size_push']; exact Nat.lt_succ_of_lt hb)]
  exact Heap.get?_push_of_some _ e

/-- a list, a tuple -/
def dSorted : List PyData → Option PyData
  | [y] => (match seqD y with
    | some (_, ds) => dSortL ds
    | none => none)
  | _ => none
theorem seqB_rep {K : PySem.W.Frag} {H : Hp} {ok : Addr → Prop} {v : V} {y : PyData} {l : Bool} {ys : List PyData} (r : RepB K H ok v y) (e : seqD y = some (l, ys)) : ∃ a xs, v = .ref a ∧ SqB K l H a xs ∧ RepL K H ok xs ys ∧ ys.length ≤ sizeLine := by
  cases y with
  | list zs => cases e; obtain ⟨a, xs, h1, h2, h4, h3⟩ := r.list; exact ⟨a, xs, h1, h2, h3, h4⟩
  | tuple zs => cases e; obtain ⟨a, xs, h1, h2, h4, h3⟩ := r.tuple; exact ⟨a, xs, h1, h2, h3, h4⟩
  | _ => cases e
theorem collect_B {pins : List (Addr × Obj)} {σ : L2.St} {H : Hp} {s : Shared} {a : Addr} {l : Bool} {xs : List V} {A : Around} {R : List Value → Shared → Prop} {E : Value → Shared → Prop} (I : Inv X pins σ H s) (h : SqB X.K l H a xs) (hz : xs.length ≤ sizeLine)
    (q : ∀ h' vs, Inv X pins σ H { s with heap := h' } → Vals xs vs → R vs { s with heap := h' }) : wpAny (model X.prog X.w) A (collect (.ref a)) R E s := by
  obtain ⟨its, rv, p, _⟩ := seqB I h
  have hs : its.toArray.size ≤ sizeLine := by simpa [← rv.length] using hz
  cases l with
  | true =>
    obtain ⟨o, e, c, n, d⟩ := p
    refine wpAny_collect_seq a (T := "list") (.inl rfl) e c d (fun h' k => ?_) hs
    exact q h' _ (I.kept (t' := s.toks) k) (by simpa using rv)
  | false =>
    obtain ⟨o, e, c, n, d⟩ := p
    refine wpAny_collect_seq a (T := "tuple") (.inr rfl) e c d (fun h' k => ?_) hs
    exact q h' _ (I.kept (t' := s.toks) k) (by simpa using rv)
theorem c_sorted (hu : X.A.units + 64 < cLine) : CallR X (.builtin "sorted") (rCall X.K dSorted) := by
  intro pins s σ H xs us Q I rx hh
  obtain ⟨ok, ds, r, hok, hx, e, q⟩ := hh
  match ds, e with
  | [y], e =>
    simp only [dSorted] at e
    cases q1 : seqD y with
    | none => rw [q1] at e; cases e
    | some z =>
      obtain ⟨l, ys⟩ := z
      rw [q1] at e
      simp only [dSortL] at e
      split at e
      · rename_i hs
        cases e
        obtain ⟨v, rfl, h⟩ := hx.one
        obtain ⟨a, xs, rfl, h1, h2, hz⟩ := seqB_rep h q1
        obtain ⟨u, rfl, ru⟩ := vals1 rx
        cases ru
        refine sorted_inv hu hs I (collect_B I h1 (by rw [h2.length]; exact hz) fun h' vs I1 rv => ⟨H, ok, xs, I1, rv, h2, fun ws' p hp rl => q _ _ (Grow.new hp) (.lst (hok p hp) upd_same ?_ (RepL.keep (Grow.new hp).keep rl))⟩)
        rw [List.length_mergeSort]
        exact hz
      · cases e
end
end G
/-! GR: dicts as rows of keys, items, values. -/
namespace G
open PySem PySem.Spec PyProof.Rows L2

section
variable {X : Cx} {pins : List (Addr × Obj)} {σ : L2.St} {H : Hp} {s : Shared} {ok : Addr → Prop}
/-- an entry as data -/
def EntOk (K : PySem.W.Frag) (H : Hp) (ok : Addr → Prop) (en : DictEntry) (q : PyData × PyData) : Prop := ∃ k v, RelV k en.key ∧ Rep K H ok k q.1 ∧ RelV v en.val ∧ Rep K H ok v q.2
structure DRaw (X : Cx) (H : Hp) (ok : Addr → Prop) (s : Shared) (a : Addr) (kvs : List (PyData × PyData)) (es : Array DictEntry) (ep : Nat) : Prop where
  raw : s.heap.DictRaw a es ep
  lo : (a == sysModules) = false
  len : es.size = kvs.length
  le : kvs.length ≤ sizeLine
  at_ : ∀ (i : Nat) (en : DictEntry), es[i]? = some en → ∃ q, kvs[i]? = some q ∧ EntOk X.K H ok en q
theorem key_rep {n : Key} {u : Value} (hs : keyS n) (h : keyIs n u = true) : ∃ v, RelV v u ∧ Rep X.K H ok v (keyD n) := by
  refine ⟨kV n, relV_key h, ?_⟩
  cases n with
  | inl i => exact .int i
  | inr x => exact .str x hs
theorem dct_raw (I : Inv X pins σ H s) {a : Addr} {tp : Bool} {kvs : List (PyData × PyData)} (d : DctR (pX X) H ok a tp kvs) : ∃ es ep, DRaw X H ok s a kvs es ep := by
  cases tp with
  | false =>
    obtain ⟨ks, e, r1⟩ := d.rd
    obtain ⟨z, lo, vs, rel, dd⟩ := dk_rd I.hok e
    obtain ⟨es, ep, hr, hz, hat⟩ := dd.raw
    have l1 : ks.length = kvs.length := Paired.length r1
    have l2 : ks.length = vs.length := rel.length
    refine ⟨es, ep, hr, lo, by omega, by omega, fun i en he => ?_⟩
    have hi : i < es.size := by
      rcases Nat.lt_or_ge i es.size with q | q
      · exact q
      · rw [Array.getElem?_eq_none q] at he; cases he
    obtain ⟨x, hx⟩ : ∃ x, ks[i]? = some x := ⟨ks[i]'(by omega), List.getElem?_eq_getElem (by omega)⟩
    obtain ⟨q, hq1, hq2, hq3, hq4⟩ : ∃ q, kvs[i]? = some q ∧ q.1 = keyD x.1 ∧ keyS x.1 ∧ Rep X.K H ok x.2 q.2 := by
      have : ∀ {ks : List (Key × V)} {kvs : List (PyData × PyData)} {i : Nat} {x : Key × V}, Paired (PrF (pX X) H ok) ks kvs → ks[i]? = some x → ∃ q, kvs[i]? = some q ∧ PrF (pX X) H ok x q := by
        intro ks kvs i x r
        induction r generalizing i with
        | nil => intro e; simp at e
        | cons h _ ih =>
          intro e
          cases i with
          | zero => simp at e; subst e; exact ⟨_, rfl, h⟩
          | succ j => obtain ⟨q, h1, h2⟩ := ih (i := j) (by simpa using e); exact ⟨q, by simpa using h1, h2⟩
      obtain ⟨q, h1, h2⟩ := this r1 hx
      exact ⟨q, h1, h2⟩
    obtain ⟨u, hu, ru⟩ := kv_get rel (k := x.1) (v := x.2) hx
    have z2 := hat i hi x.1 u hu
    have een : es[i] = en := by
      rw [Array.getElem?_eq_getElem hi] at he; exact Option.some.inj he
    rw [een] at z2
    obtain ⟨w, hw1, hw2⟩ := key_rep (X := X) (H := H) (ok := ok) hq3 (show keyIs x.1 en.key = true from z2.1)
    refine ⟨q, hq1, w, x.2, hw1, by rw [hq2]; exact hw2, by rw [z2.2]; exact ru, hq4⟩
  | true =>
    obtain ⟨es, ep, xs, e, h1, h2, h3, h4, r1⟩ := d.tt
    obtain ⟨⟨o, ho, hx, hd⟩, _⟩ := (show ObjOk X.prog X.w H s.heap a (dTh a es ep) from I.hok a _ e)
    have l1 : xs.length = kvs.length := Paired.length r1
    have l2 : es.size = xs.length := by rw [← Array.length_toList, h1, List.length_map]
    refine ⟨es, ep, ⟨o, ho, hx, hd⟩, h3, by omega, h4, fun i en he => ?_⟩
    have he' : es.toList[i]? = some en := by rw [Array.getElem?_toList]; exact he
    rw [h1, List.getElem?_map] at he'
    cases q : xs[i]? with
    | none => rw [q] at he'; cases he'
    | some x =>
      rw [q] at he'
      have een : entryOfKey (nestedKind X.prog X.w) x = en := Option.some.inj he'
      have : ∀ {xs : List (NestedKey × Addr × Value)} {kvs : List (PyData × PyData)} {i : Nat} {x : NestedKey × Addr × Value}, Paired (PrT (pX X) H ok) xs kvs → xs[i]? = some x → ∃ q, kvs[i]? = some q ∧ PrT (pX X) H ok x q := by
        intro ks kvs i x r
        induction r generalizing i with
        | nil => intro e; simp at e
        | cons h _ ih =>
          intro e
          cases i with
          | zero => simp at e; subst e; exact ⟨_, rfl, h⟩
          | succ j => obtain ⟨q, h1, h2⟩ := ih (i := j) (by simpa using e); exact ⟨q, by simpa using h1, h2⟩
      obtain ⟨p, g1, g2, g3, g4, v, g5, g6⟩ := this r1 q
      refine ⟨p, g1, .ref x.2.1, v, ?_, g4, ?_, g6⟩
      · rw [← een]; rfl
      · rw [← een]; exact g5
theorem kdl_rawKeys {prog : Program} {w : World} {d : Addr} {es : Array DictEntry} {ep : Nat} (lo : (d == sysModules) = false) : PySem.W.KdlSrc prog w "dict" d d es.size (fun i v => ∃ hi : i < es.size, v = es[i].key) (fun h => h.DictRaw d es ep) where
  type := fun _ hm => hm.typeIs
  there := fun _ hm => let ⟨_, ho, _⟩ := hm; ⟨Heap.lt_size ho, Heap.lt_size ho⟩
  keep := fun _ _ hm hk => hm.at fun o e => hk d (.inl rfl) o e
  notList := by decide
  notTuple := by decide
  hint := fun _ _ _ _ hm hq => PySem.W.kdl_hint_dict hm.typeIs hq
  iter := fun _ s hh hm => ⟨_, _, (fun _ _ hq => wpAny_pyIter_dict_raw lo hm hq), Walks.rawKeys hh _ d (Nat.ne_of_lt (let ⟨_, ho, _⟩ := hm; Heap.lt_size ho)) es ep, ⟨⟨_, Heap.get?_push_size _ rfl, rfl, rfl⟩, hm.at fun o e => Heap.get?_push_of_some _ e⟩⟩
theorem keys_rep {a : Addr} {kvs : List (PyData × PyData)} {es : Array DictEntry} {ep : Nat} (D : DRaw X H ok s a kvs es ep) {acc : List Value} (hl : acc.length = es.size) (h : ∀ (i : Nat) (v : Value), acc[i]? = some v → ∃ hi : i < es.size, v = es[i].key) : ∃ ws, Vals ws acc ∧ RepL X.K H ok ws (kvs.map (·.1)) := by
  have go : ∀ (n : Nat) (acc : List Value) (kv : List (PyData × PyData)), acc.length = kv.length → (∀ (i : Nat) (v : Value), acc[i]? = some v → ∃ w q, kv[i]? = some q ∧ RelV w v ∧ Rep X.K H ok w q.1) → ∃ ws, Vals ws acc ∧ RepL X.K H ok ws (kv.map (·.1)) := by
    intro _ acc
    induction acc with
    | nil =>
      intro kv e _
      cases kv with
      | nil => exact ⟨[], .nil, .nil⟩
      | cons => cases e
    | cons v acc ih =>
      intro kv e h
      cases kv with
      | nil => cases e
      | cons q kv =>
        obtain ⟨w, q', h1, h2, h3⟩ := h 0 v rfl
        cases h1
        obtain ⟨ws, g1, g2⟩ := ih kv (by simpa using e) fun i v e => by
          obtain ⟨w, q, z1, z2, z3⟩ := h (i + 1) v (by simpa using e)
          exact ⟨w, q, by simpa using z1, z2, z3⟩
        exact ⟨w :: ws, .cons h2 g1, .cons h3 g2⟩
  refine go 0 acc kvs (by rw [hl, D.len]) fun i v e => ?_
  obtain ⟨hi, rfl⟩ := h i v e
  obtain ⟨q, h1, k, v, h2, h3, _⟩ := D.at_ i es[i] (by rw [Array.getElem?_eq_getElem hi])
  exact ⟨k, q, h1, h2, h3⟩
end
/-- a call with one dict -/
def rCD (X : Cx) (sem : List (PyData × PyData) → Option PyData) : List V → Hp → VK → Prop := fun xs H Q => ∃ (ok : Addr → Prop) (l : Addr) (tp : Bool) (kvs : List (PyData × PyData)) (r : PyData), (∀ p, H p = none → ok p) ∧ xs = [.ref l] ∧ DctR (pX X) H ok l tp kvs ∧ sem kvs = some r ∧ ∀ v H', Grow H H' → Rep X.K H' ok v r → Q v H'
def dSortedK (kvs : List (PyData × PyData)) : Option PyData := dSortL (kvs.map (·.1))
def dListK (kvs : List (PyData × PyData)) : Option PyData := some (.list (kvs.map (·.1)))
def dLenK (kvs : List (PyData × PyData)) : Option PyData := some (.int kvs.length)
section
variable {X : Cx}
theorem c_sortedK (hc : X.calm = true) (hu : X.A.units + 64 < cLine) : CallR X (.builtin "sorted") (rCD X dSortedK) := by
  intro pins s σ H xs us Q I rx hh
  obtain ⟨ok, l, tp, kvs, r, hok, rfl, hd, e, q⟩ := hh
  obtain ⟨u, rfl, ru⟩ := vals1 rx
  cases ru
  simp only [dSortedK, dSortL] at e
  split at e
  rotate_left
  · cases e
  rename_i hs
  cases e
  obtain ⟨es, ep, D⟩ := dct_raw I hd
  refine sorted_inv hu hs I ?_
  refine PySem.W.kdu_collect (A := X.A.in1) (kdl_rawKeys D.lo) (I.ok.hd hc) D.raw (by rw [D.len]; exact D.le) fun h' tk acc hk hacc => ?_
  obtain ⟨ws, g1, g2⟩ := keys_rep D (acc := acc.toList) (by rw [Array.length_toList]; exact hacc.1) fun i v e => hacc.2 i v (by rw [← Array.getElem?_toList]; exact e)
  refine ⟨H, ok, ws, I.kept (t' := tk) hk, g1, g2, fun ws' p hp rl => q _ _ (Grow.new hp) (.lst (hok p hp) upd_same ?_ (RepL.keep (Grow.new hp).keep rl))⟩
  rw [List.length_mergeSort, List.length_map]
  exact D.le
theorem c_listK (hc : X.calm = true) : CallR X (.type "list") (rCD X dListK) := by
  intro pins s σ H xs us Q I rx hh
  obtain ⟨ok, l, tp, kvs, r, hok, rfl, hd, e, q⟩ := hh
  obtain ⟨u, rfl, ru⟩ := vals1 rx
  cases ru
  cases e
  obtain ⟨es, ep, D⟩ := dct_raw I hd
  refine PySem.W.kdl_call (kdl_rawKeys D.lo) (I.ok.hd hc) D.raw (by rw [D.len]; exact D.le) fun h' tk acc c' hk hD hacc => ?_
  obtain ⟨ws, g1, g2⟩ := keys_rep D (acc := acc.toList) (by rw [Array.length_toList]; exact hacc.1) fun i v e => hacc.2 i v (by rw [← Array.getElem?_toList]; exact e)
  have hp := I.hok.fresh (Nat.le_refl s.heap.objs.size)
  have hz : (kvs.map (·.1)).length ≤ sizeLine := by rw [List.length_map]; exact D.le
  refine ⟨.ref s.heap.objs.size, upd H s.heap.objs.size (.lst ws), I.laid (t' := tk) hk (Nat.le_refl _)
    (show ObjOk X.prog X.w _ _ _ (.lst ws) from ⟨by rw [g2.length]; exact hz, acc.toList, c', g1, by rw [Array.toArray_toList]; exact hD⟩), rfl, q _ _ (Grow.new hp) (.lst (hok _ hp) upd_same hz (RepL.keep (Grow.new hp).keep g2))⟩

/-- of a dict that is read -/
@[simp] def xD1 (sem : List (PyData × PyData) → Option PyData) (f : Fr → Res AV) : Fr → Res AV := fun fr => (f fr).bind fun a fr1 => match fr1.dview a with
  | some (_, kvs) => ofO fr1 (sem kvs)
  | none => .err
variable {x : XW} {a b d : Expr} {f g h : Fr → Res AV} {pos : Pos}
theorem tA_D1 {sem : List (PyData × PyData) → Option PyData} {σ : L2.St} {H : Hp} {Q : VK} (hh : tE (pX X) x (xD1 sem f) σ H Q) : tCons (tE (pX X) x f) tNil σ H fun vs H1 => rCD X sem vs H1 Q := by
  obtain ⟨c, fr, ad, F, o⟩ := hh
  refine ⟨c, fr, ad, F, (Out.bind F o).mono fun av fr1 ad1 H1 F1 m1 o1 v rv => ?_⟩
  cases q1 : fr1.dview av with
  | none => rw [q1] at o1; exact o1.elim
  | some z =>
    obtain ⟨tp, kvs⟩ := z
    rw [q1] at o1
    simp only [ofO] at o1
    cases q3 : sem kvs with
    | none => rw [q3] at o1; exact o1.elim
    | some r =>
      rw [q3] at o1
      obtain ⟨l, rfl, dd⟩ := dview_rep F1 rv q1
      exact ⟨okP c ad1, l, tp, kvs, r, fun p hp => okP_new F1 hp, rfl, dd, q3, fun w H3 gr rw_ => o1 ad1 H3 (F1.grow gr) (Mv.grow gr) w rw_⟩
theorem ae_callBD {id : String} {n : Str} {sem : List (PyData × PyData) → Option PyData} {p1 : Pos} (hc : CallR X (.builtin id) (rCD X sem)) (hg : Gl X n) (hm : X.mg n = none) (hv : bootBuiltins n = some (.builtin id)) (ha : AE X x a f)
    (hn : n ≠ "__name__" := by decide) (hdb : (n == ("__debug__" : Str)) = false := by decide) (he : starEach [a] X.env = (false, eval a X.env) :: starEach [] X.env := by rfl) (hpl : (backTo pos (starEach [] X.env)).any (·.1) = false := by rfl) :
    AE X x (.Call (.Name n p1) [a] [] pos) (xD1 sem f) :=
  (pe_callB hc hg hm hv (pa_cons ha pa_nil he) hn hdb he hpl).imp fun _ _ _ h => tA_D1 h
theorem ae_callTD {T : String} {n : Str} {sem : List (PyData × PyData) → Option PyData} {p1 : Pos} (hc : CallR X (.type T) (rCD X sem)) (hg : Gl X n) (hm : X.mg n = none) (hv : bootBuiltins n = some (.type T)) (ha : AE X x a f)
    (hn : n ≠ "__name__" := by decide) (hdb : (n == ("__debug__" : Str)) = false := by decide) (he : starEach [a] X.env = (false, eval a X.env) :: starEach [] X.env := by rfl) (hpl : (backTo pos (starEach [] X.env)).any (·.1) = false := by rfl) :
    AE X x (.Call (.Name n p1) [a] [] pos) (xD1 sem f) :=
  (pe_callTy hc hg hm hv (pa_cons ha pa_nil he) hn hdb he hpl).imp fun _ _ _ h => tA_D1 h

/-! ### d.items(), as it is handed to a built-in function -/
def rCI (X : Cx) (sem : List (PyData × PyData) → Option PyData) : List V → Hp → VK → Prop := fun xs H Q => ∃ (ok : Addr → Prop) (p l : Addr) (tp : Bool) (kvs : List (PyData × PyData)) (r : PyData), (∀ p, H p = none → ok p) ∧ xs = [.ref p] ∧ H p = some (DX.itemsO p l) ∧ DctR (pX X) H ok l tp kvs ∧ sem kvs = some r ∧ ∀ v H', Grow H H' → Rep X.K H' ok v r → Q v H'
def itemsD (kvs : List (PyData × PyData)) : List PyData := kvs.map fun q => .tuple [q.1, q.2]
def dSortedI (kvs : List (PyData × PyData)) : Option PyData := dSortL (itemsD kvs)
/-- new tuples, one after another -/
theorem take_items {pins : List (Addr × Obj)} {σ : L2.St} {s : Shared} {ok : Addr → Prop} {H0 : Hp} {h' : Heap} {tk : Nat} (I0 : Inv X pins σ H0 s) : ∀ (as : List Addr) (kv : List (PyData × PyData)) (H : Hp), Inv X pins σ H { s with heap := h', toks := tk } → as.Nodup → (∀ a ∈ as, s.heap.objs.size ≤ a ∧ H a = none) → as.length = kv.length →
    (∀ (j : Nat) (a : Addr), as[j]? = some a → ∃ q en, kv[j]? = some q ∧ EntOk X.K H ok en q ∧ h'.get? a = some { cls := .type "tuple", data := .seq #[en.key, en.val] }) →
    ∃ H', Inv X pins σ H' { s with heap := h', toks := tk } ∧ Grow H H' ∧ RepL X.K H' ok (as.map V.ref) (itemsD kv)
  | [], [], H, I, _, _, _, _ => ⟨H, I, Grow.refl, .nil⟩
  | [], _ :: _, _, _, _, _, e, _ => by cases e
  | _ :: _, [], _, _, _, _, e, _ => by cases e
  | a :: as, q :: kv, H, I, nd, hb, hl, hp => by
    obtain ⟨q', en, e1, ⟨k, v, r1, r2, r3, r4⟩, e2⟩ := hp 0 a rfl
    cases e1
    obtain ⟨b1, b2⟩ := hb a (List.mem_cons_self ..)
    rw [List.nodup_cons] at nd
    have okO : ObjOk X.prog X.w (upd H a (.tup [k, v])) h' a (.tup [k, v]) := ⟨two_ok, [en.key, en.val], .cons r1 (.cons r3 .nil), ⟨_, e2, rfl, _, rfl⟩⟩
    have I2 : Inv X pins σ (upd H a (.tup [k, v])) { s with heap := h', toks := tk } := I.take (h' := h') (t' := tk) (fun b ob _ e => e) (I0.fpOk b1 b2) okO
    have gr : Grow H (upd H a (.tup [k, v])) := Grow.new b2
    obtain ⟨H', I3, g, rl⟩ := take_items I0 as kv _ I2 nd.2 (fun c hc => by
      obtain ⟨c1, c2⟩ := hb c (List.mem_cons_of_mem _ hc)
      exact ⟨c1, by rw [upd_ne (fun z => nd.1 (by rw [← z]; exact hc))]; exact c2⟩) (by simpa using hl) (fun j c hj => by
      obtain ⟨q, en, z1, ⟨k, v, y1, y2, y3, y4⟩, z2⟩ := hp (j + 1) c (by simpa using hj)
      exact ⟨q, en, by simpa using z1, ⟨k, v, y1, y2.keep gr.keep, y3, y4.keep gr.keep⟩, z2⟩)
    refine ⟨H', I3, fun b o e => g b o (gr b o e), .cons (.tup (SqT.of (g _ _ upd_same)) two_ok (.cons (r2.keep (Grow.keep (ok := ok) fun b o e => g b o (gr b o e))) (.cons (r4.keep (Grow.keep (ok := ok) fun b o e => g b o (gr b o e))) .nil))) rl⟩
theorem collect_items {pins : List (Addr × Obj)} {σ : L2.St} {H : Hp} {s : Shared} {ok : Addr → Prop} {p l : Addr} {kvs : List (PyData × PyData)} {tp : Bool} {R : List Value → Shared → Prop} {A : Around} {E : Value → Shared → Prop} (hh : A.handled = none) (I : Inv X pins σ H s) (hp : H p = some (DX.itemsO p l)) (hd : DctR (pX X) H ok l tp kvs)
    (q : ∀ s1 vs H1 ws, Inv X pins σ H1 s1 → Grow H H1 → Vals ws vs → RepL X.K H1 ok ws (itemsD kvs) → R vs s1) : wpAny (model X.prog X.w) A (collect (.ref p)) R E s := by
  have view : s.heap.IsItemsView p l := (show ObjOk X.prog X.w H s.heap p (DX.itemsO p l) from I.hok p _ hp).1
  obtain ⟨es, ep, D⟩ := dct_raw I hd
  refine DT.collectI (es := es) (ep := ep) hh view D.raw (by rw [D.len]; exact D.le) fun h' tk as hk hlt hl hG => ?_
  have nd : as.Nodup := List.Pairwise.imp (fun h => Nat.ne_of_lt h) hG.rise
  obtain ⟨H1, I1, g, rl⟩ := take_items (ok := ok) I as kvs H (I.kept (t' := tk) hk) nd (fun a ha => ⟨Nat.le_of_lt (hG.above a ha), I.hok.fresh (Nat.le_of_lt (hG.above a ha))⟩) (by rw [hl, D.len]) fun j a hj => by
    obtain ⟨en, e1, e2⟩ := hG.pairs j a hj
    obtain ⟨q, h1, h2⟩ := D.at_ j en e1
    exact ⟨q, en, h1, h2, e2⟩
  refine q _ _ H1 _ I1 g ?_ rl
  have : ∀ as : List Addr, Vals (as.map V.ref) (as.map Value.ref) := by
    intro as
    induction as with
    | nil => exact .nil
    | cons a as ih => exact .cons rfl ih
  exact this as
theorem c_sortedI (hc : X.calm = true) (hu : X.A.units + 64 < cLine) : CallR X (.builtin "sorted") (rCI X dSortedI) := by
  intro pins s σ H xs us Q I rx hh
  obtain ⟨ok, p, l, tp, kvs, r, hok, rfl, hp, hd, e, q⟩ := hh
  obtain ⟨u, rfl, ru⟩ := vals1 rx
  cases ru
  simp only [dSortedI, dSortL] at e
  split at e
  rotate_left
  · cases e
  rename_i hs
  cases e
  have hle : kvs.length ≤ sizeLine := by
    obtain ⟨es, ep, D⟩ := dct_raw I hd
    exact D.le
  refine sorted_inv hu hs I (collect_items (I.ok.hd hc) I hp hd fun s1 vs H1 ws I1 g r1 r2 => ⟨H1, ok, ws, I1, r1, r2, fun ws' p' hp' rl => q _ _ (fun b o e => Grow.new hp' b o (g b o e)) (.lst (hok p' ?_) upd_same ?_ (RepL.keep (Grow.new hp').keep rl))⟩)
  · cases z : H p' with
    | none => rfl
    | some o => rw [g p' o z] at hp'; cases hp'
  · rw [List.length_mergeSort]
    unfold itemsD
    rw [List.length_map]
    exact hle
/-- d.items() -/
def tItems (X : Cx) (td : TE) : TE := fun σ H Q => td σ H fun v H1 => ∃ (ok : Addr → Prop) (l : Addr) (tp : Bool) (kvs : List (PyData × PyData)), v = .ref l ∧ DctR (pX X) H1 ok l tp kvs ∧ ∀ p, H1 p = none → Q (.ref p) (upd H1 p (DX.itemsO p l))
theorem pe_items {td : TE} {p1 : Pos} (ho : PE X a td) (hbase : attributeBase a "items" X.env (eval a X.env) = eval a X.env := by rfl) (hline : (p1.endLine == pos.line) = true := by rfl) : PE X (.Call (.Attribute a "items" p1) [] [] pos) (tItems X td) := by
  refine ⟨fun pins s σ H Q I h => ?_⟩
  refine wpAny_Call_method0_late hbase hline (thn (ho.run pins s σ H _ I h) fun v s1 ⟨y, H1, I1, r1, ok, l, tp, kvs, e, hd, q⟩ => ?_)
  subst e
  cases r1
  refine ⟨"dict", "dict.items", PySem.F.plainAttrs_dict, PySem.F.slot_dict_items, PySem.F.type_dict_items, dct_ty I1 hd, fun b0 e0 => by cases e0; exact dct_nod I1 hd, Calls.callWith_builtin rfl (PySem.evalArgs_none ?_)⟩
  obtain ⟨es, ep, D⟩ := dct_raw I1 hd
  refine DT.callItems (es := es) (ep := ep) D.lo D.raw ?_
  have hf : H1 s1.heap.objs.size = none := I1.hok.fresh (Nat.le_refl _)
  exact ⟨.ref s1.heap.objs.size, upd H1 s1.heap.objs.size (DX.itemsO s1.heap.objs.size l), I1.laid (t' := s1.toks) (fun b u e => Heap.get?_push_of_some _ e) (Nat.le_refl _) (DX.itemsO_ok (Heap.get?_push_size _ rfl)), rfl, q _ hf⟩
theorem tA_DI {sem : List (PyData × PyData) → Option PyData} {σ : L2.St} {H : Hp} {Q : VK} (hh : tE (pX X) x (xD1 sem f) σ H Q) : tCons (tItems X (tE (pX X) x f)) tNil σ H fun vs H1 => rCI X sem vs H1 Q := by
  obtain ⟨c, fr, ad, F, o⟩ := hh
  refine ⟨c, fr, ad, F, (Out.bind F o).mono fun av fr1 ad1 H1 F1 m1 o1 v rv => ?_⟩
  cases q1 : fr1.dview av with
  | none => rw [q1] at o1; exact o1.elim
  | some z =>
    obtain ⟨tp, kvs⟩ := z
    rw [q1] at o1
    simp only [ofO] at o1
    cases q3 : sem kvs with
    | none => rw [q3] at o1; exact o1.elim
    | some r =>
      rw [q3] at o1
      obtain ⟨l, rfl, dd⟩ := dview_rep F1 rv q1
      refine ⟨okP c ad1, l, tp, kvs, rfl, dd, fun p hp => ?_⟩
      have gr : Grow H1 (upd H1 p (DX.itemsO p l)) := Grow.new hp
      refine ⟨okP c ad1, p, l, tp, kvs, r, fun b hb => okP_new (F1.grow gr) hb, rfl, upd_same, dd.keep gr.keep (fun o e => gr _ o e), q3, fun w H3 g3 rw_ => ?_⟩
      exact o1 ad1 H3 ((F1.grow gr).grow g3) (Mv.grow fun b o e => g3 b o (gr b o e)) w rw_
theorem ae_callBI {id : String} {n : Str} {sem : List (PyData × PyData) → Option PyData} {p1 p2 p3 : Pos} (hc : CallR X (.builtin id) (rCI X sem)) (hg : Gl X n) (hm : X.mg n = none) (hv : bootBuiltins n = some (.builtin id)) (ha : AE X x a f)
    (hbase : attributeBase a "items" X.env (eval a X.env) = eval a X.env := by rfl) (hline : (p2.endLine == p3.line) = true := by rfl)
    (hn : n ≠ "__name__" := by decide) (hdb : (n == ("__debug__" : Str)) = false := by decide) (he : starEach [.Call (.Attribute a "items" p2) [] [] p3] X.env = (false, eval (.Call (.Attribute a "items" p2) [] [] p3) X.env) :: starEach [] X.env := by rfl) (hpl : (backTo pos (starEach [] X.env)).any (·.1) = false := by rfl) :
    AE X x (.Call (.Name n p1) [.Call (.Attribute a "items" p2) [] [] p3] [] pos) (xD1 sem f) :=
  (pe_callB hc hg hm hv (pa_cons (pe_items ha hbase hline) pa_nil he) hn hdb he hpl).imp fun _ _ _ h => tA_DI h
end
end G
/-! GS: cells dropped, cells lent, defs that call themselves, chains of comparisons. -/
namespace G
open PySem PySem.Spec PyProof.Rows L2

/-! ### cells that no name holds any more -/
@[simp] def maxcel : List (Option AV) → Nat
  | [] => 0
  | some (.cel i) :: r => max (i + 1) (maxcel r)
  | some (.brd _ _ i) :: r => max (i + 1) (maxcel r)
  | _ :: r => maxcel r
@[simp] def Fr.gc (fr : Fr) : Fr := ⟨fr.vars, fr.cells.take (max fr.base (maxcel fr.vars)), fr.base⟩
def avCel : AV → Option Nat
  | .cel i => some i
  | .brd _ _ i => some i
  | _ => none
theorem maxcel_cons (v : Option AV) (vs : List (Option AV)) : maxcel vs ≤ maxcel (v :: vs) := by
  conv => rhs; unfold maxcel
  split
  · rename_i h; cases h
  · rename_i h; cases h; omega
  · rename_i h; cases h; omega
  · rename_i h; cases h; exact Nat.le_refl _
theorem maxcel_at : ∀ {vs : List (Option AV)} {j i : Nat} {av : AV}, vs[j]? = some (some av) → avCel av = some i → i < maxcel vs
  | [], _, _, _, e, _ => by simp at e
  | v :: vs, 0, i, av, e, h => by
    simp at e; subst e
    cases av with
    | cel k => cases h; unfold maxcel; omega
    | brd _ _ k => cases h; unfold maxcel; omega
    | _ => cases h
  | v :: vs, j + 1, i, av, e, h => Nat.lt_of_lt_of_le (maxcel_at (vs := vs) (j := j) (i := i) (by simpa using e) h) (maxcel_cons v vs)
section
variable {p : Par} {c : Ent} {fr : Fr} {ad : List (Option Addr)} {σ : L2.St} {H : Hp}
theorem FR.gc (F : FR p c fr ad σ H) : ∃ ad', FR p c fr.gc ad' σ H := by
  generalize hm : max fr.base (maxcel fr.vars) = m
  refine ⟨ad.take m, ?_⟩
  have sub : ∀ a, some a ∈ ad.take m → some a ∈ ad := fun a h => List.mem_of_mem_take h
  have mono : ∀ a, okP c ad a → okP c (ad.take m) a := fun a h => ⟨h.1, fun z => h.2 (sub a z)⟩
  have at' : ∀ (i : Nat) (a : Addr), (ad.take m)[i]? = some (some a) → i < m ∧ ad[i]? = some (some a) := fun i a e => by
    have hi : i < m := by
      have := lt_of_at e
      rw [List.length_take] at this; omega
    rw [List.getElem?_take, if_pos hi] at e
    exact ⟨hi, e⟩
  have rep : ∀ {v : V} {av : AV}, (∀ i, avCel av = some i → i < m) → RepA p H (okP c ad) ad v av → RepA p H (okP c (ad.take m)) (ad.take m) v av := fun {v av} hc r => by
    cases av with
    | dat y => exact Rep.mono mono r
    | dct tp kvs => obtain ⟨b, e, h1, h2⟩ := r; exact ⟨b, e, mono b h1, h2.mono mono⟩
    | cel i => obtain ⟨b, e, h⟩ := r; exact ⟨b, e, by rw [List.getElem?_take, if_pos (hc i rfl)]; exact h⟩
    | scr ns => exact r
    | brd rms cks i => obtain ⟨b, u, e, h1, h2, h⟩ := r; exact ⟨b, u, e, mono b h1, h2.mono mono, by rw [List.getElem?_take, if_pos (hc i rfl)]; exact h⟩
  have hcells : fr.gc.cells = fr.cells.take m := by unfold Fr.gc; rw [hm]
  refine ⟨F.len, fun i av e => ?_, by rw [hcells, List.length_take, List.length_take, F.clen], fun i a e => ?_, fun i j a e1 e2 => F.nd i j a (at' i a e1).2 (at' j a e2).2, F.old, fun i a e => ?_, fun a h => F.adw a (sub a h), fun q hq => ⟨(F.gh q hq).1, rep (fun i e => ?_) (F.gh q hq).2⟩, fun a ha => ⟨fun z => (F.pr a ha).1 (sub a z), (F.pr a ha).2⟩, F.bs⟩
  · obtain ⟨v, h1, h2⟩ := F.var i av e
    refine ⟨v, h1, rep (fun j ej => ?_) h2⟩
    have z := maxcel_at (show fr.vars[i]? = some (some av) from e) ej
    rw [← hm]; omega
  · obtain ⟨hi, e'⟩ := at' i a e
    obtain ⟨cl, h1, h2⟩ := F.cel i a e'
    exact ⟨cl, by rw [hcells, List.getElem?_take, if_pos hi]; exact h1, h2.mono mono⟩
  · have hi := lt_of_at e
    rw [List.getElem?_take, if_pos (by rw [← hm, F.bs]; omega)]
    exact F.sub i a e
  · have := (F.gh q hq).1
    revert this e
    cases q.2 with
    | cel _ => exact fun _ h => nomatch h
    | brd _ _ _ => exact fun _ h => nomatch h
    | dat _ => exact fun h _ => nomatch h
    | dct _ _ => exact fun h _ => nomatch h
    | scr _ => exact fun h _ => nomatch h
end
@[simp] def sGc (f : Fr → SRes) : Fr → SRes := fun fr => f fr.gc
section
variable {X : Cx} {x : XW} {st : Stmt} {ss : List Stmt} {s : Fr → SRes}
theorem as_gc (h1 : AS X x st s) : AS X x st (sGc s) := L2.PS.imp h1 fun D σ H ⟨c, fr, ad, F, o⟩ => by
  obtain ⟨ad', F'⟩ := F.gc
  exact ⟨c, _, ad', F', o⟩
theorem ass_gc (h1 : ASs X x ss s) : ASs X x ss (sGc s) := L2.PSs.imp h1 fun D σ H ⟨c, fr, ad, F, o⟩ => by
  obtain ⟨ad', F'⟩ := F.gc
  exact ⟨c, _, ad', F', o⟩
end

/-! ### cells lent to a call: it reads them as data -/
@[simp] def lend1 (fr : Fr) : AV → Option AV
  | .cel i => match fr.cells[i]? with
    | some (.lst xs) => some (.dat (.list xs))
    | some (.dct tp kvs) => some (.dct tp kvs)
    | _ => none
  | a => some a
@[simp] def lend (fr : Fr) : List Bool → List AV → Option (List AV)
  | [], [] => some []
  | b :: bs, a :: as => match (if b = true then lend1 fr a else some a), lend fr bs as with
    | some a', some as' => some (a' :: as')
    | _, _ => none
  | _, _ => none
@[simp] def lentOf : List Bool → List AV → List Nat
  | true :: bs, .cel i :: as => i :: lentOf bs as
  | _ :: bs, _ :: as => lentOf bs as
  | _, _ => []
@[simp] def xCallL (fl : List Bool) (m : AFun) (gs : Fr → Res (List AV)) : Fr → Res AV := fun fr => (gs fr).bind fun as0 fr1 => match lend fr1 fl as0 with
  | some as => if (celsOf as).Nodup ∧ noScr as = true ∧ ∀ i ∈ lentOf fl as0, i ∉ celsOf as then (match getAll fr1.cells (celsOf as) with
    | some cs => (match m (relab 0 as) cs with
      | .ok (.dat y) cs' => if noL y = true ∧ cs'.all noLC = true then .ok (.dat y) ⟨fr1.vars, putAll fr1.cells (celsOf as) cs', fr1.base⟩ else .err
      | _ => .err)
    | none => .err) else .err
  | none => .err
section
variable {p : Par} {c : Ent} {fr : Fr} {ad : List (Option Addr)} {σ : L2.St} {H H' : Hp}
theorem call_end2 {S : Addr → Prop} {W : List Addr} {ids : List Nat} {cs' : List Cell} (F : FR p c fr ad σ H) (nd : ids.Nodup) (hW : ∀ (j i : Nat), ids[j]? = some i → ∃ a, W[j]? = some a ∧ ad[i]? = some (some a)) (hl : W.length = ids.length)
    (P : PostF p H S W cs' H') (hc : cs'.all noLC = true) : FR p c ⟨fr.vars, putAll fr.cells ids cs', fr.base⟩ ad σ H' ∧ Mv H ad H' ad := by
  have wad : ∀ a, a ∈ W → ∃ j i, ids[j]? = some i ∧ W[j]? = some a ∧ ad[i]? = some (some a) := fun a m => by
    obtain ⟨j, e⟩ := mem_at m
    have hj : j < ids.length := by rw [← hl]; exact lt_of_at e
    obtain ⟨b, h1, h2⟩ := hW j ids[j] (by rw [List.getElem?_eq_getElem hj])
    rw [e] at h1; cases h1
    exact ⟨j, ids[j], by rw [List.getElem?_eq_getElem hj], e, h2⟩
  have m : Mv H ad H' ad := ⟨fun b o e n => P.keep b o e fun hm => by
    obtain ⟨j, i, _, _, h⟩ := wad b hm
    exact n (List.mem_of_getElem? h), fun _ _ e => e, fun _ h => .inl h, P.there⟩
  refine ⟨⟨F.len, fun i av e => ?_, by rw [putAll_len]; exact F.clen, fun i a e => ?_, F.nd, fun b o e n => ?_, F.sub, F.adw, fun q hq => ⟨(F.gh q hq).1, RepA.mv F m (F.gh q hq).2⟩, m.prs F, F.bs⟩, m⟩
  · obtain ⟨v, h1, h2⟩ := F.var i av e
    exact ⟨v, h1, RepA.mv F m h2⟩
  · by_cases hm : i ∈ ids
    · obtain ⟨j, hj⟩ := mem_at hm
      obtain ⟨b, h1, h2⟩ := hW j i hj
      rw [e] at h2; cases h2
      obtain ⟨cl, h3, h4⟩ := P.cel j a h1
      exact ⟨cl, putAll_in nd hj h3 (by rw [F.clen]; exact lt_of_at e), CellAt.any h4 (List.all_eq_true.mp hc _ (List.mem_of_getElem? h3))⟩
    · obtain ⟨cl, h1, h2⟩ := F.cel i a e
      have na : a ∉ W := fun hw => by
        obtain ⟨j, k, h3, _, h4⟩ := wad a hw
        have := F.nd k i a h4 e
        subst this
        exact hm (List.mem_of_getElem? h3)
      refine ⟨cl, by rw [putAll_out hm]; exact h1, ?_⟩
      have kp : ∀ o, H a = some o → H' a = some o := fun o z => P.keep a o z na
      cases cl with
      | lst ds =>
        obtain ⟨xs, q1, q2, q3⟩ := h2
        exact ⟨xs, kp _ q1, q2, q3.keep (m.kp F)⟩
      | dct tp kvs => exact DctAt.keep (m.kp F) kp h2
      | gone => exact h2
  · refine P.keep b o (F.old b o e n) fun hw => ?_
    obtain ⟨j, k, _, _, h4⟩ := wad b hw
    rcases F.adw b (List.mem_of_getElem? h4) with z | z
    · exact n z
    · rw [z] at e; cases e
/-- what the call may hold: besides the caller's own, the cells that are lent -/
def lentS (c : Ent) (ad : List (Option Addr)) (ls : List Nat) (a : Addr) : Prop := okP c ad a ∨ ∃ i ∈ ls, ad[i]? = some (some a)
theorem lend_rep (F : FR p c fr ad σ H) {ls : List Nat} : ∀ {fl : List Bool} {vs : List V} {as0 as : List AV}, RepAs p H (okP c ad) ad vs as0 → lend fr fl as0 = some as → (∀ i ∈ lentOf fl as0, i ∈ ls) → RepAs p H (lentS c ad ls) ad vs as
  | [], [], [], as, .nil, e, _ => by cases e; exact .nil
  | [], _ :: _, _ :: _, as, .cons _ _, e, _ => by cases e
  | b :: bs, [], [], as, .nil, e, _ => by cases e
  | b :: bs, v :: vs, a :: as0, as, .cons r rs, e, hm => by
    have mono : ∀ b, okP c ad b → lentS c ad ls b := fun b hb => .inl hb
    unfold lend at e
    cases q1 : (if b = true then lend1 fr a else some a) with
    | none => rw [q1] at e; cases e
    | some a' =>
      cases q2 : lend fr bs as0 with
      | none => rw [q1, q2] at e; cases e
      | some as' =>
        rw [q1, q2] at e
        cases e
        have hm2 : ∀ i ∈ lentOf bs as0, i ∈ ls := fun i hi => hm i (by cases b <;> cases a <;> first | exact hi | exact List.mem_cons_of_mem _ hi)
        refine .cons ?_ (lend_rep F rs q2 hm2)
        cases b with
        | false =>
          cases q1
          exact RepA.mono mono r
        | true =>
          rw [if_pos rfl] at q1
          cases a with
          | dat y => cases q1; exact RepA.mono mono r
          | dct tp kvs => cases q1; exact RepA.mono mono r
          | scr ns => cases q1; exact RepA.mono mono r
          | brd _ _ _ => cases q1; exact RepA.mono mono r
          | cel i =>
            obtain ⟨l, rfl, hl⟩ := r
            obtain ⟨cl, h1, h2⟩ := F.cel i l hl
            unfold lend1 at q1
            simp only [h1] at q1
            have okl : lentS c ad ls l := .inr ⟨i, hm i (by simp [lentOf]), hl⟩
            cases cl with
            | lst xs =>
              cases q1
              obtain ⟨ws, g1, g2, g3⟩ := h2
              exact .lst okl g1 g2 (g3.mono mono)
            | dct tp kvs => cases q1; exact ⟨l, rfl, okl, DctAt.r (DctAt.mono mono h2)⟩
            | gone => exact h2.elim
end
section
variable {X : Cx} {x : XW} {a : Expr} {f g h : Fr → Res AV} {pos : Pos}
theorem tE_callL {fl : List Bool} {m : AFun} {n : Nat} {gs : Fr → Res (List AV)} {σ : L2.St} {H : Hp} {Q : VK} (hn : ∀ fr as fr', gs fr = .ok as fr' → as.length = n) (h : tE (pX X) x (xCallL fl m gs) σ H Q) : tA (pX X) x gs σ H fun vs H1 => spF (pX X) x.C m n vs H1 Q fun C d H' => x.W C d σ H' := by
  obtain ⟨c, fr, ad, F, o⟩ := h
  refine ⟨c, fr, ad, F, ?_⟩
  unfold xCallL at o
  cases qg : gs fr with
  | exc cl fs fr1 => rw [qg] at o; exact o
  | err => rw [qg] at o; exact o
  | ok as0 fr1 =>
    have o2 := Out.bind F o
    rw [qg] at o2
    intro ad1 H1 F1 m1 vs rvs0
    have o0 := o2 ad1 H1 F1 m1
    refine ⟨by rw [Paired.length rvs0]; exact hn fr as0 fr1 qg, ?_⟩
    simp only at o0
    cases qL : lend fr1 fl as0 with
    | none => rw [qL] at o0; exact o0.elim
    | some as =>
      rw [qL] at o0
      simp only at o0
      split at o0
      rotate_left
      · exact o0.elim
      rename_i hnl
      obtain ⟨nd, hsc, hap⟩ := hnl
      have rvs := lend_rep F1 (ls := lentOf fl as0) rvs0 qL fun i hi => hi
      cases q1 : getAll fr1.cells (celsOf as) with
      | none => rw [q1] at o0; exact o0.elim
      | some cs =>
        rw [q1] at o0
        simp only at o0
        obtain ⟨lW, hW⟩ := celAds_at rvs
        obtain ⟨lc, hcs⟩ := getAll_at q1
        have ndW : (celAds ad1 as).Nodup := by
          unfold List.Nodup
          rw [List.pairwise_iff_getElem]
          intro j k hj hk hjk e
          have hk' : k < (celsOf as).length := by rw [← lW]; exact hk
          have hj' : j < (celsOf as).length := by omega
          obtain ⟨b1, h1, h2⟩ := hW j (celsOf as)[j] (by rw [List.getElem?_eq_getElem hj'])
          obtain ⟨b2, h3, h4⟩ := hW k (celsOf as)[k] (by rw [List.getElem?_eq_getElem hk'])
          rw [List.getElem?_eq_getElem hj] at h1
          rw [List.getElem?_eq_getElem hk] at h3
          have eb : b1 = b2 := by rw [← Option.some.inj h1, ← Option.some.inj h3]; exact e
          subst eb
          have := F1.nd _ _ _ h2 h4
          have := (List.getElem_inj nd).mp this
          omega
        have notW : ∀ b, lentS c ad1 (lentOf fl as0) b → b ∉ celAds ad1 as := fun b hb hw => by
          obtain ⟨j, e⟩ := mem_at hw
          have hj : j < (celsOf as).length := by rw [← lW]; exact lt_of_at e
          obtain ⟨b', h1, h2⟩ := hW j (celsOf as)[j] (by rw [List.getElem?_eq_getElem hj])
          rw [e] at h1; cases h1
          rcases hb with hb | ⟨i, hi, hb⟩
          · exact hb.2 (List.mem_of_getElem? h2)
          · have := F1.nd _ _ _ hb h2
            exact hap i hi (by rw [this]; exact List.getElem_mem hj)
        have mono : ∀ b, lentS c ad1 (lentOf fl as0) b → ok0 (lentS c ad1 (lentOf fl as0)) (celAds ad1 as) b := fun b hb => ⟨hb, notW b hb⟩
        have mono2 : ∀ b, okP c ad1 b → ok0 (lentS c ad1 (lentOf fl as0)) (celAds ad1 as) b := fun b hb => mono b (.inl hb)
        refine ⟨lentS c ad1 (lentOf fl as0), celAds ad1 as, relab 0 as, cs, relab_rep mono rvs hsc fun j b e => by rw [Nat.zero_add]; exact e, ndW, by rw [lc, lW], fun i b e => ?_, ?_⟩
        · have hi : i < (celsOf as).length := by rw [← lW]; exact lt_of_at e
          obtain ⟨b', h1, h2⟩ := hW i (celsOf as)[i] (by rw [List.getElem?_eq_getElem hi])
          rw [e] at h1; cases h1
          obtain ⟨cl, h3, h4⟩ := hcs i (celsOf as)[i] (by rw [List.getElem?_eq_getElem hi])
          obtain ⟨cl', h5, h6⟩ := F1.cel _ b h2
          rw [h3] at h5; cases h5
          exact ⟨cl, h4, CellAt.mono mono2 h6⟩
        · cases q2 : m (relab 0 as) cs with
          | ok r cs' =>
            rw [q2] at o0
            intro v H2 P rv
            cases r with
            | dat y =>
              simp only at o0
              split at o0
              rotate_left
              · exact o0.elim
              rename_i hny
              obtain ⟨F2, m2⟩ := call_end2 F1 nd hW lW P hny.2
              exact o0 ad1 H2 F2 m2 v (Rep.any rv hny.1)
            | _ => exact o0.elim
          | exc cl fs cs' => rw [q2] at o0; exact o0.elim
          | err => rw [q2] at o0; exact o0.elim
theorem ae_callL {CX : CXT} {k j : Nat} {n : Str} {m : AFun} {es : List Expr} {gs : Fr → Res (List AV)} {p1 : Pos} {np : Nat} (fl : List Bool) (D : DefF X.prog X.w X.K X.mg X.base CX x.C k n np m) (hr : Room j X.A) (hk : k ≤ j) (hx : ∀ σ, PassesAt CX X σ fun C d H' => x.W C d σ H') (hg : Gl X n) (ha : AA X x (a :: es) gs) (hn : ∀ fr as fr', gs fr = .ok as fr' → as.length = np)
    (hdb : (n == ("__debug__" : Str)) = false := by decide) (he : starEach (a :: es) X.env = (false, eval a X.env) :: starEach es X.env := by rfl) (hpl : (backTo pos (starEach es X.env)).any (·.1) = false := by rfl) :
    AE X x (.Call (.Name n p1) (a :: es) [] pos) (xCallL fl m gs) := by
  obtain ⟨f, fd, ps, F, hm, kp, b⟩ := D.ex
  refine (pe_callSD F (hr.mono hk) hg hm kp b .nil (E := fun σ C d H' => x.W C d σ H') hx ha hdb he hpl).imp fun σ H Q h => ?_
  have z := tE_callL hn h
  unfold tCallSD
  simpa only [List.append_nil] using z

/-! ### chains -/
@[simp] def xChain (s1 s2 : PyData → PyData → Option PyData) (f g h : Fr → Res AV) : Fr → Res AV := fun fr => (f fr).bind fun a fr1 => (g fr1).bind fun b fr2 => match fr2.view a, fr2.view b with
  | some y, some z => (match s1 y z with
    | some (.bool k) => if k = true then (h fr2).bind (fun e fr3 => match fr3.view b, fr3.view e with
      | some z', some w => ofO fr3 (s2 z' w)
      | _, _ => .err) else .ok (.dat (.bool false)) fr2
    | _ => .err)
  | _, _ => .err
theorem tE_chain {s1 s2 : PyData → PyData → Option PyData} {σ : L2.St} {H : Hp} {Q : VK} (hh : tE (pX X) x (xChain s1 s2 f g h) σ H Q) : tChain (rOp2 X.K s1) (rOp2 X.K s2) (tE (pX X) x f) (tE (pX X) x g) (tE (pX X) x h) σ H Q := by
  obtain ⟨c, fr, ad, F, o⟩ := hh
  refine ⟨c, fr, ad, F, (Out.bind F o).mono fun av fr1 ad1 H1 F1 m1 o1 v rv => ?_⟩
  refine ⟨c, fr1, ad1, F1, (Out.bind F1 o1).mono fun bv fr2 ad2 H2 F2 m2 o2 u ru => ?_⟩
  have rv2 := RepA.mv F1 m2 rv
  cases q1 : fr2.view av with
  | none => rw [q1] at o2; exact o2.elim
  | some dx =>
    cases q2 : fr2.view bv with
    | none => rw [q1, q2] at o2; exact o2.elim
    | some dy =>
      rw [q1, q2] at o2
      simp only at o2
      cases q3 : s1 dx dy with
      | none => rw [q3] at o2; exact o2.elim
      | some r =>
        rw [q3] at o2
        cases r with
        | bool k =>
          simp only at o2
          refine ⟨okP c ad2, dx, dy, .bool k, fun p hp => okP_new F2 hp, view_rep F2 rv2 q1, view_rep F2 ru q2, q3, fun w H3 gr rw_ => ?_⟩
          refine ⟨k, RepB.bool (.inl rw_), ?_⟩
          have F3 := F2.grow gr
          cases k with
          | false =>
            rw [if_neg (by decide)] at o2 ⊢
            exact o2 ad2 H3 F3 (Mv.grow gr) _ (.bl _)
          | true =>
            rw [if_pos rfl] at o2 ⊢
            have o3 := Out.bind F2 o2
            refine ⟨c, fr2, ad2, F3, ?_⟩
            cases qh : h fr2 with
            | err => rw [qh] at o3; exact o3
            | exc cl fs fr3 =>
              rw [qh] at o3
              intro ad3 H4 C d F4 m4 hx
              exact o3 ad3 H4 C d F4 ((Mv.grow gr).trans F2 m4) hx
            | ok ev fr3 =>
              rw [qh] at o3
              intro ad3 H4 F4 m4 t rt
              have m5 := (Mv.grow (ad := ad2) gr).trans F2 m4
              have o4 := o3 ad3 H4 F4 m5
              have ru3 := RepA.mv F2 m5 ru
              cases q4 : fr3.view bv with
              | none => simp only [q4] at o4; exact o4.elim
              | some z' =>
                cases q5 : fr3.view ev with
                | none => simp only [q4, q5] at o4; exact o4.elim
                | some w' =>
                  simp only [q4, q5, ofO] at o4
                  cases q6 : s2 z' w' with
                  | none => rw [q6] at o4; exact o4.elim
                  | some r2 =>
                    rw [q6] at o4
                    exact ⟨okP c ad3, z', w', r2, fun p hp => okP_new F4 hp, view_rep F4 ru3 q4, view_rep F4 rt q5, q6, fun y H5 gr5 ry => o4 ad3 H5 (F4.grow gr5) (Mv.grow gr5) y ry⟩
        | _ => exact o2.elim
theorem ae_chain {b d : Expr} {op op' : CmpOp} {s1 s2 : PyData → PyData → Option PyData} (ho : OpR X (compareOp op) (rOp2 X.K s1)) (ho2 : OpR X (compareOp op') (rOp2 X.K s2)) (ha : AE X x a f) (hb : AE X x b g) (hd : AE X x d h) (hm : lastMarks [op, op'] [b, d] = false := by rfl) : AE X x (.Compare a [op, op'] [b, d] pos) (xChain s1 s2 f g h) :=
  (pe_chain ho ho2 ha hb hd hm).imp fun _ _ _ z => tE_chain z
theorem at_chain {b d : Expr} {op op' : CmpOp} {s1 s2 : PyData → PyData → Option PyData} (ho : OpR X (compareOp op) (rOp2 X.K s1)) (ho2 : OpR X (compareOp op') (rOp2 X.K s2)) (ha : AE X x a f) (hb : AE X x b g) (hd : AE X x d h) (hm : lastMarks [op, op'] [b, d] = false := by rfl) : AT X x (.Compare a [op, op'] [b, d] pos) (xB (xChain s1 s2 f g h)) :=
  (pt_chain ho ho2 ha hb hd hm).imp fun _ _ _ z => tE_chain (tT_tB z)

/-! ### a def that calls itself: nothing is promised of no turns -/
theorem fn_err {P : Program} {w : World} {K : PySem.W.Frag} {mg : Str → Option Value} {base : Heap} {CX : CXT} {n qual : Str} {params : Arguments} {body : List Stmt} {scope : Scope} {dvs : List V} {kws : List (Str × V)} {f : Addr} {fd : FuncData} {N ps : List Str} {k : Nat} {C : CExc}
    (F : FunD K n qual params body scope dvs kws f fd) (S : FnScope N ps scope) : FnOk P w K mg base CX (k + 1) f fd ps (spF ⟨P, w, K⟩ C (fun _ _ => .err) ps.length) :=
  F.ok S (fun vs H Q E h => h.1) fun cdv A outer s H vs Q E hr hsp => by
    obtain ⟨_, S0, W0, as, cells, _, _, _, _, hm⟩ := hsp
    exact hm.elim
end
end G
/-! GT: small helps for printed proofs. -/
namespace G
open PySem PySem.Spec PyProof.Rows L2
/-- given up where it is a cell -/
@[simp] def sFrzM (i : Nat) (f : Fr → SRes) : Fr → SRes := fun fr => match fr.vars[i]? with
  | some (some (.cel j)) => (match fr.frz j with
    | some fr1 => f fr1
    | none => .err)
  | _ => f fr
section
variable {X : Cx} {x : XW} {st : Stmt} {ss : List Stmt} {s : Fr → SRes}
theorem frzM_read {p : Par} {D : Ends} {σ : L2.St} {H : Hp} {i : Nat} (hh : tS p x (sFrzM i s) D σ H) : tS p x s D σ H := by
  obtain ⟨c, fr, ad, F, o⟩ := hh
  unfold sFrzM at o
  split at o
  · rename_i j q
    cases q2 : fr.frz j with
    | none => rw [q2] at o; exact o.elim
    | some fr2 =>
      rw [q2] at o
      obtain ⟨ad', F'⟩ := F.frz q2
      exact ⟨c, fr2, ad', F', o⟩
  · exact ⟨c, fr, ad, F, o⟩
theorem as_frzM (i : Nat) (h1 : AS X x st s) : AS X x st (sFrzM i s) := L2.PS.imp h1 fun D σ H z => frzM_read z
theorem ass_frzM (i : Nat) (h1 : ASs X x ss s) : ASs X x ss (sFrzM i s) := L2.PSs.imp h1 fun D σ H z => frzM_read z
end
/-- a slot's int, as a measure -/
def natOf (i : Nat) (fr : Fr) : Nat := match fr.vars[i]? with
  | some (some (.dat (.int n))) => n.natAbs
  | _ => 0
theorem room65 {k : Nat} {A : Around} (r : Room k A) : A.units + 65 < cLine := by have := r.un; omega
theorem nc_nil : ∀ fr as fr', xNil fr = .ok as fr' → as.length = 0 := fun fr as fr' h => by cases h; rfl
theorem nc_cons {f : Fr → Res AV} {gs : Fr → Res (List AV)} {n : Nat} (h : ∀ fr as fr', gs fr = .ok as fr' → as.length = n) : ∀ fr as fr', xCons f gs fr = .ok as fr' → as.length = n + 1 := fun fr as fr' e => by
  unfold xCons at e
  cases q : f fr with
  | ok av fr1 =>
    rw [q] at e
    have e' : (gs fr1).bind (fun as fr2 => Res.ok (av :: as) fr2) = .ok as fr' := e
    cases q2 : gs fr1 with
    | ok bs fr2 =>
      rw [q2] at e'
      have e2 : Res.ok (av :: bs) fr2 = Res.ok as fr' := e'
      injection e2 with e3 _
      subst e3
      simp [h _ _ _ q2]
    | exc cl fs fr2 => rw [q2] at e'; cases e'
    | err => rw [q2] at e'; cases e'
  | exc cl fs fr1 => rw [q] at e; cases e
  | err => rw [q] at e; cases e
@[simp] def sWh (t : Fr → Res Bool) (b : Fr → SRes) (m : Fr → Nat) : Fr → SRes := fun fr => whA t b (m fr) fr
abbrev C0 : CExc := fun _ _ _ _ _ => False
theorem boot_isinstance : bootBuiltins "isinstance" = some (.builtin "isinstance") := by kernel_rfl
theorem boot_len' : bootBuiltins "len" = some (.builtin "len") := by kernel_rfl
theorem boot_abs' : bootBuiltins "abs" = some (.builtin "abs") := by kernel_rfl
theorem boot_min' : bootBuiltins "min" = some (.builtin "min") := by kernel_rfl
theorem boot_max' : bootBuiltins "max" = some (.builtin "max") := by kernel_rfl
theorem boot_sorted' : bootBuiltins "sorted" = some (.builtin "sorted") := by kernel_rfl
theorem boot_all' : bootBuiltins "all" = some (.builtin "all") := by kernel_rfl
theorem boot_any' : bootBuiltins "any" = some (.builtin "any") := by kernel_rfl
theorem boot_sum' : bootBuiltins "sum" = some (.builtin "sum") := by kernel_rfl
theorem boot_int' : bootBuiltins "int" = some (.type "int") := by kernel_rfl
theorem boot_bool' : bootBuiltins "bool" = some (.type "bool") := by kernel_rfl
theorem boot_str' : bootBuiltins "str" = some (.type "str") := by kernel_rfl
theorem boot_list' : bootBuiltins "list" = some (.type "list") := by kernel_rfl
theorem boot_tuple' : bootBuiltins "tuple" = some (.type "tuple") := by kernel_rfl
theorem boot_dict' : bootBuiltins "dict" = some (.type "dict") := by kernel_rfl
theorem boot_set' : bootBuiltins "set" = some (.type "set") := by kernel_rfl
end G
/-! GU: all, any, turned round, lists made to be written on. -/
namespace G
open PySem PySem.Spec PyProof.Rows L2

/-! ### all, any -/
def boolsD : List PyData → Option (List Bool)
  | [] => some []
  | .bool b :: ds => match boolsD ds with
    | some bs => some (b :: bs)
    | none => none
  | _ :: _ => none
def dAll : List PyData → Option PyData
  | [.list ds] => match boolsD ds with
    | some bs => some (.bool (bs.all id))
    | none => none
  | _ => none
def dAny : List PyData → Option PyData
  | [.list ds] => match boolsD ds with
    | some bs => some (.bool (bs.any id))
    | none => none
  | _ => none
theorem bools_rep {K : PySem.W.Frag} {H : Hp} {ok : Addr → Prop} : ∀ {vs : List V} {ds : List PyData} {bs : List Bool}, RepL K H ok vs ds → boolsD ds = some bs → vs = bs.map V.bl
  | _, _, _, .nil, e => by cases e; rfl
  | _, .bool b :: ds, _, .cons r rs, e => by
    unfold boolsD at e
    cases q : boolsD ds with
    | none => rw [q] at e; cases e
    | some cs =>
      rw [q] at e
      cases e
      rw [RepB.bool (.inl r), bools_rep rs q]
      rfl
  | _, .int _ :: _, _, .cons _ _, e => by cases e
  | _, .str _ :: _, _, .cons _ _, e => by cases e
  | _, .none :: _, _, .cons _ _, e => by cases e
  | _, .list _ :: _, _, .cons _ _, e => by cases e
  | _, .tuple _ :: _, _, .cons _ _, e => by cases e
  | _, .dict _ :: _, _, .cons _ _, e => by cases e
section
variable {X : Cx}
theorem c_all (hc : X.calm = true) : CallR X (.builtin "all") (rCall X.K dAll) := by
  intro pins s σ H xs us Q I rx hh
  obtain ⟨ok, ds, r, hok, hx, e, q⟩ := hh
  match ds, e with
  | [.list ds], e =>
    simp only [dAll] at e
    cases q1 : boolsD ds with
    | none => rw [q1] at e; cases e
    | some bs =>
      rw [q1] at e
      cases e
      obtain ⟨v, rfl, h⟩ := hx.one
      obtain ⟨l, ys, rfl, h1, z1, r1⟩ := h.list
      rw [bools_rep r1 q1] at h1
      exact cr_all hc pins s σ H _ us Q I rx ⟨l, bs, rfl, h1, q _ H Grow.refl (.bl _)⟩
theorem c_any (hc : X.calm = true) : CallR X (.builtin "any") (rCall X.K dAny) := by
  intro pins s σ H xs us Q I rx hh
  obtain ⟨ok, ds, r, hok, hx, e, q⟩ := hh
  match ds, e with
  | [.list ds], e =>
    simp only [dAny] at e
    cases q1 : boolsD ds with
    | none => rw [q1] at e; cases e
    | some bs =>
      rw [q1] at e
      cases e
      obtain ⟨v, rfl, h⟩ := hx.one
      obtain ⟨l, ys, rfl, h1, z1, r1⟩ := h.list
      rw [bools_rep r1 q1] at h1
      exact cr_any hc pins s σ H _ us Q I rx ⟨l, bs, rfl, h1, q _ H Grow.refl (.bl _)⟩
end

/-! ### turned round -/
theorem rev_adjust (n : Nat) : Builtin.Slice.sliceAdjust none none (-1) (n : Int) = ((n : Int) - 1, -1) := by
  unfold Builtin.Slice.sliceAdjust
  simp
theorem rev_places (n : Nat) : Builtin.Slice.slicePlaces ((n : Int) - 1) (-1) (-1) = n := by
  unfold Builtin.Slice.slicePlaces
  rw [if_neg (by decide)]
  split
  · rw [show (-(-1) : Int) = 1 by decide, Int.ediv_one]; omega
  · omega
theorem fm_congr {α β : Type} {f g : α → Option β} : ∀ {l : List α}, (∀ a ∈ l, f a = g a) → l.filterMap f = l.filterMap g
  | [], _ => rfl
  | a :: l, h => by rw [List.filterMap_cons, List.filterMap_cons, h a (List.mem_cons_self ..), fm_congr fun b hb => h b (List.mem_cons_of_mem _ hb)]
theorem rev_pick (xs : Array Value) : ((List.range xs.size).filterMap fun (m : Nat) => xs[(((xs.size : Int) - 1) + (m : Int) * (-1)).toNat]?).toArray = xs.toList.reverse.toArray := by
  have e : (List.range xs.size).filterMap (fun (m : Nat) => xs[(((xs.size : Int) - 1) + (m : Int) * (-1)).toNat]?) = (List.range xs.size).reverse.filterMap (xs[·]?) := by
    rw [← PySem.W.krv_range, List.filterMap_map]
    refine fm_congr fun m hm => ?_
    have := List.mem_range.mp hm
    show xs[_]? = xs[xs.size - 1 - m]?
    congr 1
    omega
  rw [e, List.filterMap_reverse, PySem.W.krv_all]
section
variable {prog : Program} {w : World} {A : Around} {E : Value → Shared → Prop} {s : Shared}
theorem applied_rev {sl : Addr} {vl vu vs : Value} {n : Nat} {Q : Int × Int × Nat → Shared → Prop} (hs : s.heap.IsSliceOf sl vl vu vs) (pl : IsPart vl none) (pu : IsPart vu none) (ps : IsPart vs (some (-1)))
    (h : Q ((n : Int) - 1, -1, n) s) : wpAny (model prog w) A (Builtin.Slice.sliceApplied (.ref sl) (pure (n : Int))) Q E s := by
  obtain ⟨os, hos, hcs, hds⟩ := id hs
  unfold Builtin.Slice.sliceApplied Builtin.Slice.sliceFields
  refine wpAny_bind (wpAny_bind (wpAny_field hos hds (x := vl) rfl (wpAny_bind (wpAny_field hos hds (x := vu) rfl (wpAny_bind (wpAny_field hos hds (x := vs) rfl (wpAny_pure ?_)))))))
  refine wpAny_bind (HT.slicePart_ ps ?_)
  show wpAny _ _ (if ((-1 : Int) == 0) = true then _ else _) _ _ s
  rw [if_neg (by decide)]
  refine wpAny_bind (HT.slicePart_ pl (wpAny_bind (HT.slicePart_ pu (wpAny_bind (wpAny_pure ?_)))))
  show wpAny _ _ (match Builtin.Slice.sliceAdjust none none (-1) (n : Int) with | (lo, hi) => pure (lo, (-1 : Int), Builtin.Slice.slicePlaces lo hi (-1))) _ _ s
  rw [rev_adjust]
  show wpAny _ _ (pure ((n : Int) - 1, (-1 : Int), Builtin.Slice.slicePlaces ((n : Int) - 1) (-1) (-1))) _ _ s
  rw [rev_places]
  exact wpAny_pure h
theorem getItem_tup_rev {t sl : Addr} {items : Array Value} {vl vu vs : Value} {Q : Value → Shared → Prop} (ht : IsTup s.heap t items) (hs : s.heap.IsSliceOf sl vl vu vs) (pl : IsPart vl none) (pu : IsPart vu none) (ps : IsPart vs (some (-1)))
    (h : Q (.ref s.heap.objs.size) { s with heap := s.heap.push { cls := .type "tuple", data := .seq items.toList.reverse.toArray } })
    (hsz : items.size ≤ sizeLine) : wpAny (model prog w) A (getItem (.ref t) (.ref sl)) Q E s := by
  have htake : sizeOk (.seq items.toList.reverse.toArray) := by
    show items.toList.reverse.toArray.size ≤ sizeLine
    simpa using hsz
  obtain ⟨os, hos, hcs, hds⟩ := id hs
  have hTs : s.TypeIs (.ref sl) "slice" := ⟨os, hos, hcs⟩
  unfold getItem
  try with_reducible refine wpAny_holding ?_
  first | refine wpAny_bind (wpAny_pure ?_) | skip
  refine wpAny_bind (wpAny_sequenceKey ht.typeIs (by decide) ?_)
  refine wpAny_bind (wpAny_callSpecial?_slot (name := Str.ofString "__getitem__") ht.typeIs PyProof.Rows.slot_tuple_getitem
    (wpAny_call_entry PyProof.Rows.slot_tuple_getitem ht.typeIs entry_tuple_getitem ?_ (args_tuple_getitem _ _)))
  show wpAny _ _ (Builtin.Tuple.tupleItemsOf (.ref t) >>= _) _ _ s
  refine wpAny_bind (tupleItemsOf_ ht ?_)
  refine wpAny_bind (wpAny_typeOf hTs ?_)
  rw [if_pos (by decide)]
  refine wpAny_bind (applied_rev hs pl pu ps ?_)
  have hno : ¬ ((((items.size : Int) - 1) == 0 && (-1 : Int) == 1 && items.size == items.size) = true) := by
    intro q
    rw [Bool.and_eq_true, Bool.and_eq_true] at q
    exact absurd q.1.2 (by decide)
  show wpAny _ _ (if (((items.size : Int) - 1) == 0 && (-1 : Int) == 1 && items.size == items.size) = true then _ else _) _ _ s
  rw [if_neg hno, rev_pick]
  first
    | exact wpAny_bind (m := Builtin.Tuple.tupleExact _) (wpAny_newObj_type (wpAny_pure ⟨_, rfl, wpAny_pure h⟩) htake)
    | exact wpAny_bind (m := Builtin.Tuple.tupleExact _) (wpAny_newObj_type (wpAny_bind (wpAny_pure (wpAny_pure ⟨_, rfl, wpAny_pure h⟩))) htake)
    | exact wpAny_bind (wpAny_bind (m := Builtin.Tuple.tupleExact _) (wpAny_newObj_type (wpAny_pure (wpAny_pure ⟨_, rfl, wpAny_pure h⟩)) htake))
    | exact wpAny_bind (wpAny_bind (m := Builtin.Tuple.tupleExact _) (wpAny_newObj_type (wpAny_pure ⟨_, rfl, wpAny_pure h⟩) htake))
end
/-- e[::-1] -/
def dRev : PyData → Option PyData
  | .list ds => some (.list ds.reverse)
  | .tuple ds => some (.tuple ds.reverse)
  | _ => none
section
variable {X : Cx} {x : XW} {a b d : Expr} {f g h : Fr → Res AV} {pos : Pos}
theorem pe_rev {te : TE} {k : Nat} {p1 p2 p3 : Pos} (he : PE X a te) : PE X (.Subscript a (.Slice none none (some (.UnaryOp .USub (.Constant (.int 1) k p1) p2)) p3) pos) (fun σ H Q => te σ H fun v H1 => rOp1 X.K dRev v H1 Q) := by
  refine ⟨fun pins s σ H Q I hh => ?_⟩
  refine Subscript_ (thn (he.run pins s σ H _ I hh) fun v s1 ⟨y, H1, I1, r1, q1⟩ => ?_)
  obtain ⟨ok, dx, r, hok, hx, e, q⟩ := q1
  have hst : PO X (some (.UnaryOp .USub (.Constant (.int 1) k p1) p2)) (tPart (tUn (rU fun i => .int (-i)) (tC (.int 1)))) := po_some (pe_un un_neg pe_int)
  refine wpAny_Slice (thn (po_none.run pins s1 σ H1 (fun o H2 => o = none ∧ H2 = H1) I1 ⟨rfl, rfl⟩) fun vl s2 ⟨l, H2, I2, pl, el, e2⟩ => ?_)
  subst el e2
  refine thn (po_none.run pins s2 σ H2 (fun o H3 => o = none ∧ H3 = H2) I2 ⟨rfl, rfl⟩) fun vu s3 ⟨u, H3, I3, pu, eu, e3⟩ => ?_
  subst eu e3
  refine thn (hst.run pins s3 σ H3 (fun o H4 => o = some (-1) ∧ H4 = H3) I3 ⟨1, rfl, -1, rfl, rfl, rfl⟩) fun vs s4 ⟨o, H4, I4, ps, eo, e4⟩ => ?_
  subst eo e4
  have I5 : Inv X pins σ H4 { s4 with heap := s4.heap.push { cls := .type "slice", data := .fields #[vl, vu, vs] } } := I4.kept (t' := s4.toks) fun b ob q => Heap.get?_push_of_some _ q
  cases dx with
  | list ds =>
    cases e
    obtain ⟨l, xs, rfl, h1, z1, rl⟩ := hx.list
    cases r1
    obtain ⟨its, r, ht, hz⟩ := I5.list h1
    have hlen := r.length
    show wpAny (model X.prog X.w) X.A (subscriptTail a (.Slice none none (some (.UnaryOp .USub (.Constant (.int 1) k p1) p2)) p3) (.ref l) (.ref s4.heap.objs.size)) (EP X pins σ Q) X.xe { s4 with heap := s4.heap.push { cls := .type "slice", data := .fields #[vl, vu, vs] } }
    refine tail_any (ops := [.ref l, .ref s4.heap.objs.size]) ht.isList.typeIs (PySem.slot_list_getitem.lookup) ?_ (by with_unfolding_all rfl)
    refine wpAny_getItem_list_slice ht.isList (Heap.IsSliceOf.new _ vl vu vs) pl pu ps (by decide) ?_ (by rw [List.size_toArray]; omega)
    rw [PySem.W.krv_pick]
    have hp := I5.hok.fresh (Nat.le_refl (s4.heap.push { cls := .type "slice", data := .fields #[vl, vu, vs] }).objs.size)
    refine ⟨.ref _, _, I5.laid (t' := s4.toks) (o := .lst xs.reverse) (fun b ob q => Heap.get?_push_of_some _ q) (Nat.le_refl _) ?_, rfl, q _ _ (Grow.new hp) (.lst (hok _ hp) upd_same (by rw [List.length_reverse]; exact z1) (RepL.keep (Grow.new hp).keep rl.reverse))⟩
    exact ⟨by rw [List.length_reverse]; exact hz, _, 0, r.reverse, Heap.get?_push_size _ rfl⟩
  | tuple ds =>
    cases e
    obtain ⟨l, xs, rfl, h1, z1, rl⟩ := hx.tuple
    cases r1
    obtain ⟨its, r, ht, hz⟩ := I5.tuple h1
    have hlen := r.length
    show wpAny (model X.prog X.w) X.A (subscriptTail a (.Slice none none (some (.UnaryOp .USub (.Constant (.int 1) k p1) p2)) p3) (.ref l) (.ref s4.heap.objs.size)) (EP X pins σ Q) X.xe { s4 with heap := s4.heap.push { cls := .type "slice", data := .fields #[vl, vu, vs] } }
    refine tail_any (ops := [.ref l, .ref s4.heap.objs.size]) ht.typeIs (PyProof.Rows.slot_tuple_getitem.lookup) ?_ (by with_unfolding_all rfl)
    refine getItem_tup_rev ht (Heap.IsSliceOf.new _ vl vu vs) pl pu ps ?_ (by rw [List.size_toArray]; omega)
    have hp := I5.hok.fresh (Nat.le_refl (s4.heap.push { cls := .type "slice", data := .fields #[vl, vu, vs] }).objs.size)
    refine ⟨.ref _, _, I5.laid (t' := s4.toks) (o := .tup xs.reverse) (fun b ob q => Heap.get?_push_of_some _ q) (Nat.le_refl _) ?_, rfl, q _ _ (Grow.new hp) (.tup (SqT.of upd_same) (by rw [List.length_reverse]; exact z1) (RepL.keep (Grow.new hp).keep rl.reverse))⟩
    exact ⟨by rw [List.length_reverse]; exact hz, _, r.reverse, ⟨_, Heap.get?_push_size _ rfl, rfl, 0, rfl⟩⟩
  | _ => cases e
theorem ae_rev {k : Nat} {p1 p2 p3 : Pos} (ha : AE X x a f) : AE X x (.Subscript a (.Slice none none (some (.UnaryOp .USub (.Constant (.int 1) k p1) p2)) p3) pos) (xOp1 dRev f) :=
  (pe_rev ha).imp fun _ _ _ h => tE_op1 h

/-! ### list(e), to be written on -/
@[simp] def xListF (f : Fr → Res AV) : Fr → Res AV := fun fr => (f fr).bind fun a fr1 => match fr1.view a with
  | some y => (match seqD y with
    | some (_, ys) => .ok (.cel fr1.cells.length) (fr1.newc (.lst ys))
    | none => .err)
  | none => .err
def rListF (K : PySem.W.Frag) : List V → Hp → VK → Prop := fun vs H Q => ∃ (l : Addr) (b : Bool) (xs : List V), vs = [.ref l] ∧ SqB K b H l xs ∧ ∀ p, H p = none → Q (.ref p) (upd H p (.lst xs))
theorem c_listF : CallR X (.type "list") (rListF X.K) := by
  intro pins s σ H xs us Q I rx hh
  obtain ⟨l, b, ys, rfl, h1, q⟩ := hh
  cases b with
  | true => exact call_list_of pins s σ H _ us Q I rx ⟨l, ys, rfl, .inl h1, q⟩
  | false => exact call_list_of pins s σ H _ us Q I rx ⟨l, ys, rfl, .inr h1, q⟩
theorem ae_listF {p1 : Pos} (hg : Gl X "list") (hm : X.mg "list" = none) (ha : AE X x a f) (he : starEach [a] X.env = (false, eval a X.env) :: starEach [] X.env := by rfl) (hpl : (backTo pos (starEach [] X.env)).any (·.1) = false := by rfl) :
    AE X x (.Call (.Name "list" p1) [a] [] pos) (xListF f) := by
  refine (pe_callTy c_listF hg hm boot_list' (pa_cons ha pa_nil he) (by decide) (by decide) he hpl).imp fun σ H Q ⟨c, fr, ad, F, o⟩ => ?_
  refine ⟨c, fr, ad, F, (Out.bind F o).mono fun av fr1 ad1 H1 F1 m1 o1 v rv => ?_⟩
  cases q1 : fr1.view av with
  | none => rw [q1] at o1; exact o1.elim
  | some y =>
    rw [q1] at o1
    simp only at o1
    cases q2 : seqD y with
    | none => rw [q2] at o1; exact o1.elim
    | some z =>
      obtain ⟨b, ys⟩ := z
      rw [q2] at o1
      obtain ⟨l, xs, rfl, h1, h2, hz⟩ := seqB_rep (view_rep F1 rv q1) q2
      refine ⟨l, b, xs, rfl, h1, fun p hp => ?_⟩
      have F2 := F1.newc (o := .lst xs) (cl := .lst ys) hp fun ok hok => ⟨xs, upd_same, hz, h2.keep ⟨fun b u h1 h2 => ⟨hok b u h1 h2, Grow.new hp b u h2⟩, (Grow.new hp).keep (ok := okP c ad1) |>.t⟩⟩
      exact o1 _ _ F2 (mv_new hp) _ (newc_at (cl := .gone) F1)
end
end G
/-! GV: parts that are never reached, tuples of the module, dicts out of pairs. -/
namespace G
open PySem PySem.Spec PyProof.Rows L2
@[simp] def xErr : Fr → Res AV := fun _ => .err
@[simp] def sErr : Fr → SRes := fun _ => .err
section
variable {X : Cx} {x : XW} {a b d : Expr} {f g h : Fr → Res AV} {pos : Pos} {st : Stmt}
theorem ae_err : AE X x a xErr := ⟨fun pins s σ H Q I ⟨_, _, _, _, o⟩ => o.elim⟩
theorem as_err : AS X x st sErr := ⟨fun pins s σ H D I ⟨_, _, _, _, o⟩ => o.elim⟩
/-- a tuple of the module -/
theorem ae_gtup {n : Str} {l : Addr} {vs : List V} {ds : List PyData} (hg : Gl X n) (hm : X.mg n = some (.ref l)) (ht : ∀ H, SqT X.K H l vs) (hr : ∀ H ok, RepL X.K H ok vs ds) (hz : ds.length ≤ 1000 := by decide) (hd : (n == ("__debug__" : Str)) = false := by decide) : AE X x (.Name n pos) (xC (.tuple ds)) :=
  (pe_glob (v := .ref l) hg hm rfl hd).imp fun σ H Q ⟨c, fr, ad, F, o⟩ => o ad H F Mv.refl _ (.tup (ht H) (by rw [sizeLine_eq]; omega) (hr H _))

/-! ### dict(pairs), to be written on; keys are ints, texts -/
def pairsD : List PyData → Option (List (PyData × PyData))
  | [] => some []
  | .tuple [k, v] :: ds => if kOk false k = true then (match pairsD ds with
    | some r => some ((k, v) :: r)
    | none => none) else none
  | _ :: _ => none
def mergeD : List (PyData × PyData) → List (PyData × PyData) → List (PyData × PyData)
  | acc, [] => acc
  | acc, q :: r => mergeD (kput acc q.1 q.2) r
theorem pairs_rep {K : PySem.W.Frag} {H : Hp} {ok : Addr → Prop} : ∀ {ds : List PyData} {vs : List V} {kvs : List (PyData × PyData)}, RepL K H ok vs ds → pairsD ds = some kvs →
    ∃ (ps : List Addr) (ks : List (Key × V)), vs = ps.map V.ref ∧ Paired (fun p kv => SqT K H p [kV kv.1, kv.2]) ps ks ∧ Paired (fun (x : Key × V) (q : PyData × PyData) => q.1 = keyD x.1 ∧ keyS x.1 ∧ Rep K H ok x.2 q.2) ks kvs
  | [], _, _, .nil, e => by cases e; exact ⟨[], [], rfl, .nil, .nil⟩
  | d :: ds, _, kvs, .cons r rs, e => by
    unfold pairsD at e
    split at e
    · rename_i z; cases z
    · rename_i k v ds' h
      cases h
      split at e
      rotate_left
      · cases e
      rename_i hk
      cases q : pairsD ds with
      | none => rw [q] at e; cases e
      | some r2 =>
        rw [q] at e
        cases e
        obtain ⟨ps, ks, h1, h2, h3⟩ := pairs_rep rs q
        obtain ⟨l, xs, rfl, g1, _, g2⟩ := RepB.tuple (.inl r)
        cases g2 with
        | cons rk g2 =>
          cases g2 with
          | cons rv g2 =>
            cases g2
            obtain ⟨n, rfl⟩ := kOk_f hk
            obtain ⟨z1, z2⟩ : _ = kV n ∧ keyS n := by
              cases n with
              | inl i => exact ⟨RepB.int (.inl rk), trivial⟩
              | inr x => exact ⟨(RepB.str (.inl rk)).1, (RepB.str (.inl rk)).2⟩
            subst z1
            exact ⟨l :: ps, (n, _) :: ks, by rw [h1]; rfl, .cons g1 h2, .cons ⟨rfl, z2, rv⟩ h3⟩
    · cases e
theorem merge_rep {p : Par} {H : Hp} {ok : Addr → Prop} : ∀ {ks acc : List (Key × V)} {kvs kacc : List (PyData × PyData)}, Paired (PrF p H ok) ks kvs → Paired (PrF p H ok) acc kacc → Paired (PrF p H ok) (mergeK acc ks) (mergeD kacc kvs)
  | [], _, _, _, .nil, h => h
  | x :: ks, acc, _, kacc, .cons (b := q) r rs, h => by
    obtain ⟨r1, r2, r3⟩ := r
    show Paired _ (mergeK (putK acc x.1 x.2) ks) (mergeD (kput kacc q.1 q.2) _)
    rw [r1]
    exact merge_rep rs (put_f h r2 r3)
@[simp] def xDictF (f : Fr → Res AV) : Fr → Res AV := fun fr => (f fr).bind fun a fr1 => match fr1.view a with
  | some (.list ds) => (match pairsD ds with
    | some kvs => .ok (.cel fr1.cells.length) (fr1.newc (.dct false (mergeD [] kvs)))
    | none => .err)
  | _ => .err
theorem ae_dictF {p1 : Pos} (hc : X.calm = true) (hg : Gl X "dict") (hm : X.mg "dict" = none) (ha : AE X x a f) (he : starEach [a] X.env = (false, eval a X.env) :: starEach [] X.env := by rfl) (hpl : (backTo pos (starEach [] X.env)).any (·.1) = false := by rfl) :
    AE X x (.Call (.Name "dict" p1) [a] [] pos) (xDictF f) := by
  refine (pe_callTy (call_dictP hc) hg hm boot_dict' (pa_cons ha pa_nil he) (by decide) (by decide) he hpl).imp fun σ H Q ⟨c, fr, ad, F, o⟩ => ?_
  refine ⟨c, fr, ad, F, (Out.bind F o).mono fun av fr1 ad1 H1 F1 m1 o1 v rv => ?_⟩
  cases q1 : fr1.view av with
  | none => rw [q1] at o1; exact o1.elim
  | some y =>
    rw [q1] at o1
    cases y with
    | list ds =>
      simp only at o1
      cases q2 : pairsD ds with
      | none => rw [q2] at o1; exact o1.elim
      | some kvs =>
        rw [q2] at o1
        obtain ⟨l, xs, rfl, h1, hz, h2⟩ := (view_rep F1 rv q1).list
        obtain ⟨ps, ks, rfl, g1, g2⟩ := pairs_rep h2 q2
        refine ⟨l, ps, ks, rfl, h1, g1, fun p hp => ?_⟩
        have F2 := F1.newc (o := .dK (mergeK [] ks)) (cl := .dct false (mergeD [] kvs)) hp fun ok hok => ⟨_, upd_same, Paired.mapP (merge_rep (p := pX X) (H := H1) (ok := okP c ad1) g2 .nil) fun _ _ ⟨z1, z2, z3⟩ => ⟨z1, z2, z3.keep ⟨fun b u h1 h2 => ⟨hok b u h1 h2, Grow.new hp b u h2⟩, (Grow.new hp).keep (ok := okP c ad1) |>.t⟩⟩⟩
        exact o1 _ _ F2 (mv_new hp) _ (newc_at (cl := .gone) F1)
    | _ => exact o1.elim
end

/-! ### is True, is not True -/
def isBoB (b : Bool) : PyData → Bool
  | .bool c => c == b
  | _ => false
def dIsB : PyData → PyData → Option PyData
  | x, .bool b => some (.bool (isBoB b x))
  | _, _ => none
def dNotB : PyData → PyData → Option PyData
  | x, .bool b => some (.bool (!isBoB b x))
  | _, _ => none
theorem is_bool_gen {M : Model} {A : Around} {E : Value → Shared → Prop} {s : Shared} {Q : Value → Shared → Prop} {v : Value} {b : Bool} (hv : ∀ i, v ≠ .builtin i) (h : Q (.bool (v == .bool b)) s) : wpAny M A (compareOp .Is v (.bool b)) Q E s := by
  cases v <;> first | exact wpAny_pure h | exact absurd rfl (hv _)
theorem isnot_bool_gen {M : Model} {A : Around} {E : Value → Shared → Prop} {s : Shared} {Q : Value → Shared → Prop} {v : Value} {b : Bool} (hv : ∀ i, v ≠ .builtin i) (h : Q (.bool (!(v == .bool b))) s) : wpAny M A (compareOp .IsNot v (.bool b)) Q E s := by
  cases v <;> first | exact wpAny_pure h | exact absurd rfl (hv _)
theorem isB_rep {K : PySem.W.Frag} {H : Hp} {ok : Addr → Prop} {v : V} {u : Value} {y : PyData} {b : Bool} (r : RepB K H ok v y) (rv : RelV v u) : (u == Value.bool b) = isBoB b y := by
  cases y with
  | bool c => cases r.bool; cases rv; cases c <;> cases b <;> rfl
  | none => cases r.none; cases rv; rfl
  | int i => cases r.int; obtain ⟨t, rfl⟩ := rv; rfl
  | str z => cases r.str.1; obtain ⟨t, rfl⟩ := rv; rfl
  | list ds => obtain ⟨l, xs, rfl, _⟩ := r.list; cases rv; rfl
  | tuple ds => obtain ⟨l, xs, rfl, _⟩ := r.tuple; cases rv; rfl
  | dict kvs => have z := r.lay; cases z
theorem nob_rep {K : PySem.W.Frag} {H : Hp} {ok : Addr → Prop} {v : V} {u : Value} {y : PyData} (r : RepB K H ok v y) (rv : RelV v u) : ∀ i, u ≠ .builtin i := fun i e => by
  subst e
  cases y with
  | bool c => cases r.bool; cases rv
  | none => cases r.none; cases rv
  | int i => cases r.int; obtain ⟨t, z⟩ := rv; cases z
  | str z => cases r.str.1; obtain ⟨t, z⟩ := rv; cases z
  | list ds => obtain ⟨l, xs, rfl, _⟩ := r.list; cases rv
  | tuple ds => obtain ⟨l, xs, rfl, _⟩ := r.tuple; cases rv
  | dict kvs => have z := r.lay; cases z
section
variable {X : Cx}
theorem o_isB : OpR X (compareOp .Is) (rOp2 X.K dIsB) := by
  intro pins s σ H xv yv v u Q I rx ry ⟨ok, dx, dy, r, hok, hx, hy, e, q⟩
  cases dy with
  | bool b =>
    cases e; cases hy.bool; cases ry
    exact is_bool_gen (nob_rep hx rx) ⟨.bl _, H, I, by rw [isB_rep hx rx]; rfl, q _ H Grow.refl (.bl _)⟩
  | _ => cases e
theorem o_notB : OpR X (compareOp .IsNot) (rOp2 X.K dNotB) := by
  intro pins s σ H xv yv v u Q I rx ry ⟨ok, dx, dy, r, hok, hx, hy, e, q⟩
  cases dy with
  | bool b =>
    cases e; cases hy.bool; cases ry
    exact isnot_bool_gen (nob_rep hx rx) ⟨.bl _, H, I, by rw [isB_rep hx rx]; rfl, q _ H Grow.refl (.bl _)⟩
  | _ => cases e
end
end G
/-! GW: dicts compared. -/
namespace G
open PySem PySem.Spec PyProof.Rows L2
def deqB (kvs kls : List (PyData × PyData)) : Bool := kvs.length == kls.length && kvs.all fun q => match kfind kls q.1 with
  | some y => PyData.eqv q.2 y
  | none => false
def deqOk (kvs : List (PyData × PyData)) : Bool := kvs.all fun q => decide (q.2.depth ≤ 32)
section
variable {X : Cx} {pins : List (Addr × Obj)} {σ : L2.St} {H : Hp} {s : Shared} {ok : Addr → Prop}
theorem hits_rep {A : Around} (hA : A.units + 32 < cLine) (I : Inv X pins σ H s) {ls : List (Key × V)} {vb : List (Key × Value)} {kls : List (PyData × PyData)} (rb : KV ls vb) (rl : Paired (PrF (pX X) H ok) ls kls) :
    ∀ {ks : List (Key × V)} {va : List (Key × Value)} {kvs : List (PyData × PyData)}, KV ks va → Paired (PrF (pX X) H ok) ks kvs → deqOk kvs = true → PySem.W.KeqHits A s vb va (kvs.all fun q => match kfind kls q.1 with
      | some y => PyData.eqv q.2 y
      | none => false) := by
  intro ks va kvs ra rk
  unfold KV at ra
  induction rk generalizing va with
  | nil => intro _; cases ra; exact .nil
  | @cons x q ks kvs h t ih =>
    intro hd
    unfold deqOk at hd
    rw [List.all_cons, Bool.and_eq_true] at hd
    cases ra with
    | @cons _ u _ us hu ht =>
      obtain ⟨r1, r2, r3⟩ := h
      obtain ⟨u1, u2⟩ := hu
      obtain ⟨k, w⟩ := u
      have u1' : x.1 = k := u1
      subst u1'
      have rr : RelO (valV ls x.1) (valueAt vb x.1) := rb.val x.1
      rw [List.all_cons, r1]
      rcases find_f (n := x.1) rl with ⟨z1, z2⟩ | ⟨y, v, z1, z2, z3⟩
      · rw [z1]
        rw [z2] at rr
        cases e : valueAt vb x.1 with
        | none => exact .miss e
        | some y => rw [e] at rr; exact rr.elim
      · rw [z1]
        rw [z2] at rr
        obtain ⟨y', hy, ry⟩ := rr.some_of
        obtain ⟨as, g1⟩ := Dp.reads I _ _ _ r3.dp u2
        obtain ⟨bs, g2⟩ := Dp.reads I _ _ _ z3.dp ry
        refine .hit hy (PySem.SeqAt.eqAt_reads _ _ A s _ _ _ _ g1 g2 r3.lay z3.lay ?_) (ih ht hd.2)
        have := of_decide_eq_true hd.1
        omega
theorem g_deq {Q : VK} {a b : Addr} {kvs kls : List (PyData × PyData)} (hu : X.A.units + 64 < cLine) (I : Inv X pins σ H s) (da : DctR (pX X) H ok a false kvs) (db : DctR (pX X) H ok b false kls) (hk : deqOk kvs = true) :
    (Q (.bl (deqB kvs kls)) H → wpAny (model X.prog X.w) X.A (compareOp .Eq (.ref a) (.ref b)) (EP X pins σ Q) X.xe s) ∧ (Q (.bl (!deqB kvs kls)) H → wpAny (model X.prog X.w) X.A (compareOp .NotEq (.ref a) (.ref b)) (EP X pins σ Q) X.xe s) := by
  obtain ⟨ks, ea, ra⟩ := da.rd
  obtain ⟨ls, eb, rb⟩ := db.rd
  obtain ⟨za, ya, va, rla, dda⟩ := dk_rd I.hok ea
  obtain ⟨zb, yb, vb, rlb, ddb⟩ := dk_rd I.hok eb
  have l1 : ks.length = kvs.length := Paired.length ra
  have l2 : ls.length = kls.length := Paired.length rb
  have l3 : ks.length = va.length := rla.length
  have l4 : ls.length = vb.length := rlb.length
  have hh := hits_rep (A := X.A.in1) (by show X.A.units + 1 + 32 < cLine; omega) I rlb rb rla ra hk
  have e : deqB kvs kls = (va.length == vb.length && (kvs.all fun q => match kfind kls q.1 with
      | some y => PyData.eqv q.2 y
      | none => false)) := by
    unfold deqB
    rw [← l1, ← l2, l3, l4]
  refine ⟨fun q => ?_, fun q => ?_⟩
  · exact PySem.W.keq_eq (knd := mixKind X.prog X.w) ya yb dda ddb (by omega) (fun _ => hh) ⟨.bl _, H, I, rfl, by rw [← e]; exact q⟩
  · exact PySem.W.keq_ne (knd := mixKind X.prog X.w) ya yb dda ddb (by omega) (fun _ => hh) ⟨.bl _, H, I, rfl, by rw [← e]; exact q⟩
end
@[simp] def xDEq (neg : Bool) (f g : Fr → Res AV) : Fr → Res AV := fun fr => (f fr).bind fun a fr1 => (g fr1).bind fun b fr2 => match fr2.dview a, fr2.dview b with
  | some (false, kvs), some (false, kls) => if deqOk kvs = true then .ok (.dat (.bool (if neg = true then !deqB kvs kls else deqB kvs kls))) fr2 else .err
  | _, _ => .err
def rDE (X : Cx) (neg : Bool) : R2 := fun xv yv H Q => ∃ (ok : Addr → Prop) (l m : Addr) (kvs kls : List (PyData × PyData)), xv = .ref l ∧ yv = .ref m ∧ DctR (pX X) H ok l false kvs ∧ DctR (pX X) H ok m false kls ∧ deqOk kvs = true ∧ Q (.bl (if neg = true then !deqB kvs kls else deqB kvs kls)) H
section
variable {X : Cx} {x : XW} {a b d : Expr} {f g h : Fr → Res AV} {pos : Pos}
theorem o_deq (hu : X.A.units + 64 < cLine) : OpR X (compareOp .Eq) (rDE X false) := by
  intro pins s σ H xv yv v u Q I rx ry hh
  obtain ⟨ok, l, m, kvs, kls, rfl, rfl, h1, h2, h3, q⟩ := hh
  cases rx; cases ry
  exact (g_deq hu I h1 h2 h3).1 (by simpa using q)
theorem o_dne (hu : X.A.units + 64 < cLine) : OpR X (compareOp .NotEq) (rDE X true) := by
  intro pins s σ H xv yv v u Q I rx ry hh
  obtain ⟨ok, l, m, kvs, kls, rfl, rfl, h1, h2, h3, q⟩ := hh
  cases rx; cases ry
  exact (g_deq hu I h1 h2 h3).2 (by simpa using q)
theorem tE_deq {neg : Bool} {σ : L2.St} {H : Hp} {Q : VK} (hh : tE (pX X) x (xDEq neg f g) σ H Q) : tOp (rDE X neg) (tE (pX X) x f) (tE (pX X) x g) σ H Q := by
  obtain ⟨c, fr, ad, F, o⟩ := hh
  refine ⟨c, fr, ad, F, (Out.bind F o).mono fun av fr1 ad1 H1 F1 m1 o1 v rv => ?_⟩
  refine ⟨c, fr1, ad1, F1, (Out.bind F1 o1).mono fun bv fr2 ad2 H2 F2 m2 o2 w rw_ => ?_⟩
  have rv2 := RepA.mv F1 m2 rv
  cases q1 : fr2.dview av with
  | none => rw [q1] at o2; exact o2.elim
  | some z =>
    obtain ⟨tp, kvs⟩ := z
    cases q2 : fr2.dview bv with
    | none => rw [q1, q2] at o2; cases tp <;> exact o2.elim
    | some z2 =>
      obtain ⟨tp2, kls⟩ := z2
      rw [q1, q2] at o2
      cases tp with
      | true => cases tp2 <;> exact o2.elim
      | false =>
        cases tp2 with
        | true => exact o2.elim
        | false =>
          simp only at o2
          split at o2
          · rename_i hk
            obtain ⟨l, rfl, dd⟩ := dview_rep F2 rv2 q1
            obtain ⟨m, rfl, de⟩ := dview_rep F2 rw_ q2
            exact ⟨okP c ad2, l, m, kvs, kls, rfl, rfl, dd, de, hk, o2 ad2 H2 F2 Mv.refl _ (.bl _)⟩
          · exact o2.elim
theorem ae_deq (hu : X.A.units + 64 < cLine) (ha : AE X x a f) (hb : AE X x b g) (hm : behindInMarks .Eq b = false) : AE X x (.Compare a [.Eq] [b] pos) (xDEq false f g) := (pe_cmpR (o_deq hu) ha hb hm).imp fun _ _ _ h => tE_deq h
theorem ae_dne (hu : X.A.units + 64 < cLine) (ha : AE X x a f) (hb : AE X x b g) (hm : behindInMarks .NotEq b = false) : AE X x (.Compare a [.NotEq] [b] pos) (xDEq true f g) := (pe_cmpR (o_dne hu) ha hb hm).imp fun _ _ _ h => tE_deq h
theorem at_deq (hu : X.A.units + 64 < cLine) (ha : AE X x a f) (hb : AE X x b g) (hm : behindInMarks .Eq b = false) : AT X x (.Compare a [.Eq] [b] pos) (xB (xDEq false f g)) := (pt_cmpR (o_deq hu) ha hb hm).imp fun _ _ _ h => tE_deq (tT_tB h)
theorem at_dne (hu : X.A.units + 64 < cLine) (ha : AE X x a f) (hb : AE X x b g) (hm : behindInMarks .NotEq b = false) : AT X x (.Compare a [.NotEq] [b] pos) (xB (xDEq true f g)) := (pt_cmpR (o_dne hu) ha hb hm).imp fun _ _ _ h => tE_deq (tT_tB h)
end
end G
/-! GX: comprehensions of two clauses. -/
namespace G
open PySem PySem.Spec PyProof.Rows L2

/-- the turns of the first clause -/
def compB (own vs1 : List Nat) (g : Tg) (t : Fr → Res Bool) (e1 : Fr → Res (List PyData)) (g1 : Tg) (t1 : Fr → Res Bool) (f : Fr → Res AV) (vars : List (Option AV)) (bs : Nat) : List PyData → List PyData → List Cell → Option (List PyData × List Cell)
  | [], acc, cs => some (acc, cs)
  | y :: ys, acc, cs => match g y ⟨kill own vars, cs, bs⟩ with
    | some fr1 => (match t fr1 with
      | .ok b fr2 => if b = true then (match e1 fr2 with
        | .ok zs fr3 => if acc.length + zs.length ≤ 1000000 then (match compA vs1 g1 t1 f fr3.vars bs zs acc fr3.cells with
          | some (acc', cs') => compB own vs1 g t e1 g1 t1 f vars bs ys acc' cs'
          | none => none) else none
        | _ => none) else compB own vs1 g t e1 g1 t1 f vars bs ys acc fr2.cells
      | _ => none)
    | none => none
def xComp2 (own vs1 : List Nat) (e : Fr → Res (List PyData)) (g : Tg) (t : Fr → Res Bool) (e1 : Fr → Res (List PyData)) (g1 : Tg) (t1 : Fr → Res Bool) (f : Fr → Res AV) : Fr → Res AV := fun fr => (e fr).bind fun ys fr1 => match compB own vs1 g t e1 g1 t1 f fr1.vars fr1.base ys [] fr1.cells with
  | some (acc, cs) => .ok (.dat (.list acc)) ⟨fr1.vars, cs, fr1.base⟩
  | none => .err
section
variable {X : Cx} {x : XW} {tg e elt tg1 iter1 : Expr} {ef ef1 : Fr → Res (List PyData)} {g g1 : Tg} {t t1 : Fr → Res Bool} {f : Fr → Res AV} {is is1 : List Nat} {pos : Pos} {ifs ifs1 : List Expr} {scope : Scope} {own : List (Str × Nat)} {vs1 : List Nat}
theorem lc2_read {σ : L2.St} {H : Hp} {Q : VK} (hsub : ∀ i ∈ is, i ∈ own.map (·.2)) (hsub1 : ∀ i ∈ is1, i ∈ vs1) (h : tE (pX X) x (xComp2 (own.map (·.2)) vs1 ef g t ef1 g1 t1 f) σ H Q) :
    tLc2 (tI (pX X) x ef) (tG (pX X) is g) (tT (pX X) (xb x) t) (tI (pX X) (xb x) ef1) (tG (pX X) is1 g1) (tT (pX X) (xb x) t1) (tE (pX X) (xb x) f) (own.map (·.2)) vs1 σ H Q := by
  obtain ⟨c, fr, ad, F, o⟩ := h
  refine ⟨c, fr, ad, F, (Out.bind F o).mono fun ys fr1 ad1 H1 F1 m1 o1 J qs hq wk D hD => ?_⟩
  have hDe := he_new F1 hD
  have gr1 : Grow H1 (upd H1 D (.lst [])) := Grow.new hD
  have F1h := (F1.plus hq).hold (vs := []) hD
  generalize hown : own.map (·.2) = ow at *
  refine ⟨fun i m H => i ≤ ys.length ∧ m = ys.length - i ∧ ∃ (acc : List PyData) (cs : List Cell) (ad : List (Option Addr)) (vs : List V), FR (pX X) ((c.plus qs).hold D) ⟨fr1.vars, cs, fr1.base⟩ ad σ H ∧ H D = some (.lst vs) ∧ RepL X.K H (okP ((c.plus qs).hold D) ad) vs acc ∧ acc.length ≤ 1000000 ∧ Mv H1 ad1 H ad ∧
      (match compB ow vs1 g t ef1 g1 t1 f fr1.vars fr1.base (ys.drop i) acc cs with
        | some (r, cs') => ∀ ad' H', FR (pX X) c ⟨fr1.vars, cs', fr1.base⟩ ad' σ H' → Mv H1 ad1 H' ad' → ∀ v, Rep X.K H' (okP c ad') v (.list r) → Q v H'
        | none => False), ⟨ys.length, Nat.zero_le _, by simp, [], fr1.cells, ad1, [], F1h, upd_same, .nil, Nat.zero_le _, Mv.grow gr1, ?_⟩, ?_⟩
  · rw [List.drop_zero]
    cases q : compB ow vs1 g t ef1 g1 t1 f fr1.vars fr1.base ys [] fr1.cells with
    | none => rw [q] at o1; exact o1.elim
    | some r =>
      obtain ⟨r, cs'⟩ := r
      rw [q] at o1
      exact fun ad' H' F' m' v rv => o1 ad' H' F' m' v rv
  · rintro i m H2 ⟨hi2, rfl, acc, cs, ad2, vs, F2, hD2, racc, hacc, m2, o2⟩
    by_cases hlt : i < ys.length
    · right
      have ey : ys[i]? = some ys[i] := by rw [List.getElem?_eq_getElem hlt]
      obtain ⟨h1, h2⟩ := wk.go _ H2 i _ (FR.ghs (c := c.hold D) ⟨F2.len, F2.var, F2.clen, F2.cel, F2.nd, F2.old, F2.sub, F2.adw, F2.gh, F2.pr, F2.bs⟩) ey
      refine ⟨h1, _, fun H' h => ⟨ys.length - (i + 1), by omega, hlt, rfl, h⟩, fun v H3 hy => ?_⟩
      obtain ⟨gr, rv⟩ := h2 v H3 hy
      rw [List.drop_eq_getElem_cons hlt] at o2
      unfold compB at o2
      have F3 := F2.grow gr
      have D3 := gr D _ hD2
      have r3 := racc.keep (gr.keep (ok := okP ((c.plus qs).hold D) ad2))
      cases q1 : g ys[i] ⟨kill ow fr1.vars, cs, fr1.base⟩ with
      | none => rw [q1] at o2; exact o2.elim
      | some fr4 =>
        rw [q1] at o2
        simp only at o2
        refine ⟨(c.plus qs).hold D, ⟨kill ow fr1.vars, cs, fr1.base⟩, ad2, _, fr4, F3.wipe ow, rv, q1, fun σ4 F4 oa => ⟨?_, (c.plus qs).hold D, fr4, ad2, F4, ?_⟩⟩
        · rw [oa ow hsub]
          exact wipe_sub fun _ h => h
        · cases q2 : t fr4 with
          | exc cl fs fr5 => rw [q2] at o2; exact o2.elim
          | err => rw [q2] at o2; exact o2.elim
          | ok b fr5 =>
            rw [q2] at o2
            simp only at o2
            intro ad5 H5 F5 m5
            have B5 := F3.back m5 F5
            have M5 : Mv H1 ad1 H5 ad5 := (m2.trans F1 (Mv.grow gr)).trans F1 m5
            have D5 := m5.keep D _ D3 (F3.pr D (List.mem_cons_self ..)).1
            have r5 := r3.keep (m5.kp F3)
            cases b with
            | false =>
              simp only [Bool.false_eq_true, if_false] at o2 ⊢
              exact ⟨acc, fr5.cells, ad5, vs, B5, D5, r5, hacc, M5, o2⟩
            | true =>
              simp only [if_true] at o2 ⊢
              refine ⟨(c.plus qs).hold D, fr5, ad5, F5, ?_⟩
              cases q3 : ef1 fr5 with
              | exc cl fs fr6 => rw [q3] at o2; exact o2.elim
              | err => rw [q3] at o2; exact o2.elim
              | ok zs fr6 =>
                rw [q3] at o2
                simp only at o2
                by_cases hz : acc.length + zs.length ≤ 1000000
                rotate_left
                · rw [if_neg hz] at o2; exact o2.elim
                rw [if_pos hz] at o2
                intro ad6 H6 F6 m6 J1 qs1 hq1 wk1
                have B6 := B5.back m6 F6
                have M6 := M5.trans F1 m6
                have D6 := m6.keep D _ D5 (B5.pr D (List.mem_cons_self ..)).1
                have r6 := r5.keep (m6.kp B5)
                have E6 : fr6.base = fr1.base := F6.bs.trans B5.bs.symm
                refine ⟨fun j k H => j ≤ zs.length ∧ k = zs.length - j ∧ ∃ (acc2 : List PyData) (cs2 : List Cell) (ad : List (Option Addr)) (vs2 : List V), FR (pX X) (((c.plus qs).hold D).plus qs1) ⟨fr6.vars, cs2, fr1.base⟩ ad σ4 H ∧ FR (pX X) ((c.plus qs).hold D) ⟨fr1.vars, cs2, fr1.base⟩ ad σ H ∧ H D = some (.lst vs2) ∧ RepL X.K H (okP ((c.plus qs).hold D) ad) vs2 acc2 ∧ acc2.length ≤ acc.length + j ∧ Mv H1 ad1 H ad ∧
                    (match compA vs1 g1 t1 f fr6.vars fr1.base (zs.drop j) acc2 cs2 with
                      | some (acc', cs') => (match compB ow vs1 g t ef1 g1 t1 f fr1.vars fr1.base (ys.drop (i + 1)) acc' cs' with
                        | some (r, cs') => ∀ ad' H', FR (pX X) c ⟨fr1.vars, cs', fr1.base⟩ ad' σ H' → Mv H1 ad1 H' ad' → ∀ v, Rep X.K H' (okP c ad') v (.list r) → Q v H'
                        | none => False)
                      | none => False), ⟨zs.length, Nat.zero_le _, by simp, acc, fr6.cells, ad6, vs, ?_, B6, D6, r6, by omega, M6, ?_⟩, ?_⟩
                · have z := F6.plus hq1
                  rw [← E6]; exact z
                · rw [List.drop_zero]
                  cases q : compA vs1 g1 t1 f fr6.vars fr1.base zs acc fr6.cells with
                  | none => rw [q] at o2; exact o2.elim
                  | some r => rw [q] at o2; exact o2
                · rintro j k H7 ⟨hj2, rfl, acc2, cs2, ad7, vs2, F7, B7, D7, r7, hacc2, M7, o7⟩
                  by_cases hjl : j < zs.length
                  · right
                    have ez : zs[j]? = some zs[j] := by rw [List.getElem?_eq_getElem hjl]
                    obtain ⟨k1, k2⟩ := wk1.go _ H7 j _ F7.ghs ez
                    refine ⟨k1, _, fun H' h => ⟨zs.length - (j + 1), by omega, hjl, rfl, h⟩, fun w H8 hw => ?_⟩
                    obtain ⟨gr8, rw8⟩ := k2 w H8 hw
                    rw [List.drop_eq_getElem_cons hjl] at o7
                    unfold compA at o7
                    have F8 := F7.grow gr8
                    have B8 := B7.grow gr8
                    have D8 := gr8 D _ D7
                    have r8 := r7.keep (gr8.keep (ok := okP ((c.plus qs).hold D) ad7))
                    have M8 := M7.trans F1 (Mv.grow (ad := ad7) gr8)
                    cases p1 : g1 zs[j] ⟨kill vs1 fr6.vars, cs2, fr1.base⟩ with
                    | none => rw [p1] at o7; exact o7.elim
                    | some fr9 =>
                      rw [p1] at o7
                      simp only at o7
                      refine ⟨((c.plus qs).hold D).plus qs1, ⟨kill vs1 fr6.vars, cs2, fr1.base⟩, ad7, _, fr9, F8.wipe vs1, rw8, p1, fun σ9 F9 oa9 => ⟨?_, ((c.plus qs).hold D).plus qs1, fr9, ad7, F9, ?_⟩⟩
                      · rw [oa9 vs1 hsub1]
                        exact wipe_sub fun _ h => h
                      · cases p2 : t1 fr9 with
                        | exc cl fs fr10 => rw [p2] at o7; exact o7.elim
                        | err => rw [p2] at o7; exact o7.elim
                        | ok b1 fr10 =>
                          rw [p2] at o7
                          simp only at o7
                          intro ad10 H10 F10 m10
                          have A10 := F8.back m10 F10
                          have B10 := B8.back m10 F10.less
                          have M10 := M8.trans F1 m10
                          have D10 := m10.keep D _ D8 (B8.pr D (List.mem_cons_self ..)).1
                          have r10 := r8.keep (m10.kp B8)
                          cases b1 with
                          | false =>
                            simp only [Bool.false_eq_true, if_false] at o7 ⊢
                            exact ⟨acc2, fr10.cells, ad10, vs2, A10, B10, D10, r10, by omega, M10, o7⟩
                          | true =>
                            simp only [if_true] at o7 ⊢
                            refine ⟨((c.plus qs).hold D).plus qs1, fr10, ad10, F10, ?_⟩
                            cases p3 : f fr10 with
                            | exc cl fs fr11 => rw [p3] at o7; exact o7.elim
                            | err => rw [p3] at o7; exact o7.elim
                            | ok av fr11 =>
                              rw [p3] at o7
                              intro ad11 H11 F11 m11 w11 rw11
                              cases av with
                              | dat z =>
                                simp only at o7
                                have A11 := A10.back m11 F11
                                have B11 := B10.back m11 F11.less
                                have M11 := M10.trans F1 m11
                                have D11 := m11.keep D _ D10 (B10.pr D (List.mem_cons_self ..)).1
                                have r11 := r10.keep (m11.kp B10)
                                have len := r11.length
                                obtain ⟨B12, k12⟩ := B11.fill hDe (ws := vs2 ++ [w11]) D11
                                have A11' : FR (pX X) (Ent.hold ((c.plus qs).plus qs1) D) ⟨fr6.vars, fr11.cells, fr1.base⟩ ad11 σ4 H11 := ⟨A11.len, A11.var, A11.clen, A11.cel, A11.nd, A11.old, A11.sub, A11.adw, A11.gh, A11.pr, A11.bs⟩
                                obtain ⟨A12, _⟩ := A11'.fill hDe (ws := vs2 ++ [w11]) D11
                                refine ⟨vs2, D11, by rw [sizeLine_eq]; omega, acc2 ++ [z], fr11.cells, ad11, vs2 ++ [w11], ⟨A12.len, A12.var, A12.clen, A12.cel, A12.nd, A12.old, A12.sub, A12.adw, A12.gh, A12.pr, A12.bs⟩, B12, upd_same, RepL.append (r11.keep k12) (.cons (Rep.keep k12 rw11) .nil), by simp; omega, ?_, o7⟩
                                refine ⟨fun b u e n => ?_, M11.pre, M11.new, fun b h => ?_⟩
                                · have nb : b ≠ D := fun z => by rw [z, hD] at e; cases e
                                  rw [upd_ne nb]; exact M11.keep b u e n
                                · by_cases z : b = D
                                  · subst z; rw [upd_same]; simp
                                  · rw [upd_ne z]; exact M11.there b h
                              | _ => exact o7.elim
                  · have e1 : j = zs.length := by omega
                    subst e1
                    left
                    refine ⟨wk1.stop _ H7 F7.ghs, ?_⟩
                    rw [List.drop_length] at o7
                    exact ⟨acc2, cs2, ad7, vs2, B7, D7, r7, by omega, M7, o7⟩
    · have e1 : i = ys.length := by omega
      subst e1
      left
      refine ⟨wk.stop _ H2 (FR.ghs (c := c.hold D) ⟨F2.len, F2.var, F2.clen, F2.cel, F2.nd, F2.old, F2.sub, F2.adw, F2.gh, F2.pr, F2.bs⟩), ?_⟩
      rw [List.drop_length] at o2
      have o3 : ∀ ad' H', FR (pX X) c ⟨fr1.vars, cs, fr1.base⟩ ad' σ H' → Mv H1 ad1 H' ad' → ∀ v, Rep X.K H' (okP c ad') v (.list acc) → Q v H' := o2
      refine o3 ad2 H2 F2.unhold.less m2 (.ref D) (.lst ⟨⟨.inl hDe, fun z => ?_⟩, (F2.pr D (List.mem_cons_self ..)).1⟩ hD2 (by rw [sizeLine_eq]; omega) (racc.mono okP_hold))
      obtain ⟨_, us, e⟩ := F1.pr D z
      rw [hD] at e; cases e
theorem ae_lc2 (hc : X.calm = true) (hN : X.N.Nodup) (hi : AI X x tg e ef) (ok : BlkOk X.N X.env.scope scope own) (hg : Blk X scope fun Y => AG Y tg is g) (ht : Blk X scope fun Y => ATs Y (xb x) ifs t)
    (hi1 : Blk X scope fun Y => AI Y (xb x) tg1 iter1 ef1) (hg1 : Blk X scope fun Y => AG Y tg1 is1 g1) (ht1 : Blk X scope fun Y => ATs Y (xb x) ifs1 t1) (he : Blk X scope fun Y => AE Y (xb x) elt f)
    (hsub : ∀ i ∈ is, i ∈ own.map (·.2)) (hsub1 : ∀ i ∈ is1, i ∈ vs1) (hv : ∀ i ∈ vs1, i ∈ own.map (·.2)) (hs : ∀ z, foldedSetIterable e X.env z = pure z := by intro _; rfl) (hs1 : ∀ env z, foldedSetIterable iter1 env z = pure z := by intro _ _; rfl) : AE X x (.ListComp elt [⟨tg, e, ifs, 0⟩, ⟨tg1, iter1, ifs1, 0⟩] scope pos) (xComp2 (own.map (·.2)) vs1 ef g t ef1 g1 t1 f) :=
  (pe_lc2 hc hN hi ok hv hg ht hi1 hg1 ht1 he hs hs1).imp fun σ H Q h => lc2_read hsub hsub1 h
end
end G
/-! GY: dicts by comprehensions; what a comprehension made, to be written on. -/
namespace G
open PySem PySem.Spec PyProof.Rows L2

section
variable {p : Par} {c : Ent} {fr : Fr} {ad : List (Option Addr)} {σ : L2.St} {H : Hp}
theorem okP_adopt {D : Addr} : ∀ a, okP (c.hold D) ad a → okP c (ad ++ [some D]) a := fun a h => by
  refine ⟨⟨h.1.1, fun z => h.1.2 (List.mem_cons_of_mem _ z)⟩, fun m => ?_⟩
  rcases List.mem_append.mp m with m | m
  · exact h.2 m
  · have e : a = D := by simpa using m
    exact h.1.2 (by rw [e]; exact List.mem_cons_self ..)
/-- what was protected becomes a cell -/
theorem FR.adopt {D : Addr} {cl : Cell} (F : FR p (c.hold D) fr ad σ H) (hDe : c.He D = none) (hDp : D ∉ c.prot) (q : CellAt p H (okP (c.hold D) ad) D cl) : FR p c (fr.newc cl) (ad ++ [some D]) σ H := by
  obtain ⟨nD, ob, eD⟩ := F.pr D (List.mem_cons_self ..)
  have rep : ∀ {v : V} {av : AV}, RepA p H (okP (c.hold D) ad) ad v av → RepA p H (okP c (ad ++ [some D])) (ad ++ [some D]) v av := fun {v av} r => by
    cases av with
    | dat y => exact Rep.mono okP_adopt r
    | dct tp kvs =>
      obtain ⟨b, e, h1, h2⟩ := r
      exact ⟨b, e, okP_adopt b h1, h2.mono okP_adopt⟩
    | cel i =>
      obtain ⟨b, e, h1⟩ := r
      exact ⟨b, e, snoc_pre h1⟩
    | brd rms cks i =>
      obtain ⟨b, u, e, h1, h2, h3⟩ := r
      exact ⟨b, u, e, okP_adopt b h1, h2.mono okP_adopt, snoc_pre h3⟩
    | scr ns => exact r
  refine ⟨F.len, fun i av e => ?_, by simp [Fr.newc, F.clen], fun i a e => ?_, fun i j a e1 e2 => ?_, F.old, fun i a e => snoc_pre (F.sub i a e), fun a h => ?_, fun g hg => ⟨(F.gh g hg).1, rep (F.gh g hg).2⟩, fun a ha => ?_, F.bs⟩
  · obtain ⟨v, h1, h2⟩ := F.var i av e
    exact ⟨v, h1, rep h2⟩
  · rcases snoc_at e with e | ⟨hi, e⟩
    · obtain ⟨cl', h1, h2⟩ := F.cel i a e
      exact ⟨cl', snoc_pre h1, h2.mono okP_adopt⟩
    · have e' : a = D := by simpa using e
      subst e'
      refine ⟨cl, ?_, q.mono okP_adopt⟩
      show (fr.cells ++ [cl])[i]? = some cl
      rw [hi, ← F.clen]; simp
  · rcases snoc_at e1 with k1 | ⟨h1, k1⟩
    · rcases snoc_at e2 with k2 | ⟨h2, k2⟩
      · exact F.nd i j a k1 k2
      · have e' : a = D := by simpa using k2
        exact absurd (List.mem_of_getElem? k1) (by rw [e']; exact nD)
    · rcases snoc_at e2 with k2 | ⟨h2, k2⟩
      · have e' : a = D := by simpa using k1
        exact absurd (List.mem_of_getElem? k2) (by rw [e']; exact nD)
      · rw [h1, h2]
  · rcases List.mem_append.mp h with h | h
    · exact F.adw a h
    · have e : a = D := by simpa using h
      exact .inr (by rw [e]; exact hDe)
  · obtain ⟨h1, o, h2⟩ := F.pr a (List.mem_cons_of_mem _ ha)
    refine ⟨fun m => ?_, o, h2⟩
    rcases List.mem_append.mp m with m | m
    · exact h1 m
    · have e : a = D := by simpa using m
      exact hDp (by rw [← e]; exact ha)
theorem FR.fillK {D : Addr} (F : FR p (c.hold D) fr ad σ H) (hD : c.He D = none) {ks ks' : List (Key × V)} (e : H D = some (.dK ks)) : FR p (c.hold D) fr ad σ (upd H D (.dK ks')) ∧ Keep H (upd H D (.dK ks')) (okP (c.hold D) ad) (okP (c.hold D) ad) := by
  have nD : some D ∉ ad := (F.pr D (List.mem_cons_self ..)).1
  have ne : ∀ a, okP (c.hold D) ad a → a ≠ D := fun a h z => h.1.2 (by rw [z]; exact List.mem_cons_self ..)
  have kt : ∀ a xs, Rd H a (.tup xs) → Rd (upd H D (.dK ks')) a (.tup xs) := fun a xs r => by
    have na : a ≠ D := fun z => by
      subst z
      rcases r with r | ⟨_, r⟩ <;> (rw [e] at r; cases r)
    rcases r with r | ⟨o, r⟩
    · exact .inl (by rw [upd_ne na]; exact r)
    · exact .inr ⟨o, by rw [upd_ne na]; exact r⟩
  have kp : Keep H (upd H D (.dK ks')) (okP (c.hold D) ad) (okP (c.hold D) ad) := ⟨fun a o h q => ⟨h, by rw [upd_ne (ne a h)]; exact q⟩, kt⟩
  have rep : ∀ {v : V} {av : AV}, RepA p H (okP (c.hold D) ad) ad v av → RepA p (upd H D (.dK ks')) (okP (c.hold D) ad) ad v av := fun {v av} r => by
    cases av with
    | dat y => exact Rep.keep kp r
    | dct tp kvs =>
      obtain ⟨b, e, h1, h2⟩ := r
      exact ⟨b, e, h1, h2.keep kp fun o z => by rw [upd_ne (ne b h1)]; exact z⟩
    | cel i => exact r
    | brd rms cks i =>
      obtain ⟨b, u, e, h1, h2, h3⟩ := r
      exact ⟨b, u, e, h1, h2.keep kp fun o z => by rw [upd_ne (ne b h1)]; exact z, h3⟩
    | scr ns =>
      obtain ⟨hl, b, rfl, z⟩ := r
      refine ⟨hl, b, rfl, ?_⟩
      rcases z with ⟨u, z⟩ | z
      · exact .inl ⟨u, by rw [upd_ne (by rintro rfl; rw [e] at z; cases z)]; exact z⟩
      · exact .inr z
  refine ⟨⟨F.len, fun i av q => ?_, F.clen, fun i a q => ?_, F.nd, fun b o q h => ?_, F.sub, F.adw, fun q hq => ⟨(F.gh q hq).1, rep (F.gh q hq).2⟩, fun a ha => ?_, F.bs⟩, kp⟩
  · obtain ⟨v, h1, h2⟩ := F.var i av q
    exact ⟨v, h1, rep h2⟩
  · obtain ⟨cl, h1, h2⟩ := F.cel i a q
    have na : a ≠ D := fun z => nD (by rw [← z]; exact List.mem_of_getElem? q)
    refine ⟨cl, h1, ?_⟩
    cases cl with
    | lst ds =>
      obtain ⟨xs, h3, hz, h4⟩ := h2
      exact ⟨xs, by rw [upd_ne na]; exact h3, hz, h4.keep kp⟩
    | dct tp kvs => exact DctAt.keep kp (fun o z => by rw [upd_ne na]; exact z) h2
    | gone => exact h2
  · have nb : b ≠ D := by
      intro z
      have q' : c.He b = some o := q
      rw [z, hD] at q'
      cases q'
    rw [upd_ne nb]; exact F.old b o q h
  · by_cases z : a = D
    · subst z; exact ⟨nD, _, upd_same⟩
    · obtain ⟨h1, us, h2⟩ := F.pr a ha
      exact ⟨h1, us, by rw [upd_ne z]; exact h2⟩
/-- any new object, protected -/
theorem FR.holdO (F : FR p c fr ad σ H) {D : Addr} {o0 : HO} (n : H D = none) : FR p (c.hold D) fr ad σ (upd H D o0) := by
  have gr : Grow H (upd H D o0) := Grow.new n
  have kp : Keep H (upd H D o0) (okP c ad) (okP (c.hold D) ad) := ⟨fun a o h e => ⟨⟨⟨h.1.1, fun z => by
    rcases List.mem_cons.mp z with z | z
    · subst z; rw [n] at e; cases e
    · exact h.1.2 z⟩, h.2⟩, gr a o e⟩, (gr.keep (ok := okP c ad)).t⟩
  have nD : some D ∉ ad := fun m => by
    obtain ⟨o, e, _⟩ := F.track m
    rw [n] at e; cases e
  have rep : ∀ {v : V} {av : AV}, RepA p H (okP c ad) ad v av → RepA p (upd H D o0) (okP (c.hold D) ad) ad v av := fun {v av} r => by
    cases av with
    | dat y => exact Rep.keep kp r
    | dct tp kvs =>
      obtain ⟨b, e, h1, h2⟩ := r
      obtain ⟨o, z, _⟩ := h2.there
      exact ⟨b, e, (kp.l b o h1 z).1, h2.keep kp fun o z => gr b o z⟩
    | cel i => exact r
    | brd rms cks i =>
      obtain ⟨b, u, e, h1, h2, h3⟩ := r
      obtain ⟨o, z⟩ := h2.there
      exact ⟨b, u, e, (kp.l b o h1 z).1, h2.keep kp fun o z => gr b o z, h3⟩
    | scr ns => exact RepA.mv F (Mv.grow gr) r
  refine ⟨F.len, fun i av e => ?_, F.clen, fun i a e => ?_, F.nd, fun b o e h => gr _ _ (F.old b o e h), F.sub, F.adw, fun q hq => ⟨(F.gh q hq).1, rep (F.gh q hq).2⟩, fun a ha => ?_, F.bs⟩
  · obtain ⟨v, h1, h2⟩ := F.var i av e
    exact ⟨v, h1, rep h2⟩
  · obtain ⟨cl, h1, h2⟩ := F.cel i a e
    refine ⟨cl, h1, ?_⟩
    cases cl with
    | lst ds =>
      obtain ⟨xs, h3, hz, h4⟩ := h2
      exact ⟨xs, gr _ _ h3, hz, h4.keep kp⟩
    | dct tp kvs => exact DctAt.keep kp (fun o z => gr _ _ z) h2
    | gone => exact h2
  · rcases List.mem_cons.mp ha with e | e
    · subst e; exact ⟨nD, _, upd_same⟩
    · obtain ⟨h1, ws, h2⟩ := F.pr a e
      exact ⟨h1, ws, gr _ _ h2⟩
end

/-! ### {k: v for ..}, keys ints or texts -/
def compD (own : List Nat) (g : Tg) (t : Fr → Res Bool) (fk fv : Fr → Res AV) (vars : List (Option AV)) (bs : Nat) : List PyData → List (PyData × PyData) → List Cell → Option (List (PyData × PyData) × List Cell)
  | [], acc, cs => some (acc, cs)
  | y :: ys, acc, cs => match g y ⟨kill own vars, cs, bs⟩ with
    | some fr1 => (match t fr1 with
      | .ok b fr2 => if b = true then (match fk fr2 with
        | .ok (.dat k) fr3 => (match fv fr3 with
          | .ok (.dat v) fr4 => if kOk false k = true ∧ acc.length < 1000000 then compD own g t fk fv vars bs ys (kput acc k v) fr4.cells else none
          | _ => none)
        | _ => none) else compD own g t fk fv vars bs ys acc fr2.cells
      | _ => none)
    | none => none
@[simp] def xDComp (own : List Nat) (e : Fr → Res (List PyData)) (g : Tg) (t : Fr → Res Bool) (fk fv : Fr → Res AV) : Fr → Res AV := fun fr => (e fr).bind fun ys fr1 => match compD own g t fk fv fr1.vars fr1.base ys [] fr1.cells with
  | some (acc, cs) => .ok (.dct false acc) ⟨fr1.vars, cs, fr1.base⟩
  | none => .err
@[simp] def xDCompF (own : List Nat) (e : Fr → Res (List PyData)) (g : Tg) (t : Fr → Res Bool) (fk fv : Fr → Res AV) : Fr → Res AV := fun fr => (e fr).bind fun ys fr1 => match compD own g t fk fv fr1.vars fr1.base ys [] fr1.cells with
  | some (acc, cs) => .ok (.cel cs.length) ((⟨fr1.vars, cs, fr1.base⟩ : Fr).newc (.dct false acc))
  | none => .err
section
variable {X : Cx} {x : XW} {tg e kx vx : Expr} {ef : Fr → Res (List PyData)} {g : Tg} {t : Fr → Res Bool} {fk fv : Fr → Res AV} {is : List Nat} {pos : Pos} {ifs : List Expr} {scope : Scope} {own : List (Str × Nat)}
theorem dc_read (fresh : Bool) {σ : L2.St} {H : Hp} {Q : VK} (hsub : ∀ i ∈ is, i ∈ own.map (·.2)) (h : tE (pX X) x (if fresh = true then xDCompF (own.map (·.2)) ef g t fk fv else xDComp (own.map (·.2)) ef g t fk fv) σ H Q) :
    tDc (tI (pX X) x ef) (tG (pX X) is g) (tT (pX X) (xb x) t) (tE (pX X) (xb x) fk) (tE (pX X) (xb x) fv) (own.map (·.2)) σ H Q := by
  obtain ⟨c, fr, ad, F, o⟩ := h
  generalize hown : own.map (·.2) = ow at *
  -- what is wished of the dict at the end
  have o' : Out (pX X) x c ad σ H (ef fr) fun ys fr1 ad1 H1 => FR (pX X) c fr1 ad1 σ H1 → ∀ D, H1 D = none → (match compD ow g t fk fv fr1.vars fr1.base ys [] fr1.cells with
      | some (acc, cs) => ∀ ad' H' ks, FR (pX X) (c.hold D) ⟨fr1.vars, cs, fr1.base⟩ ad' σ H' → Mv H1 ad1 H' ad' → H' D = some (.dK ks) → Paired (PrF (pX X) H' (okP (c.hold D) ad')) ks acc → Q (.ref D) H'
      | none => False) := by
    cases fresh with
    | true =>
      refine (Out.bind F o).mono fun ys fr1 ad1 H1 F1 m1 o1 _ D hD => ?_
      cases q : compD ow g t fk fv fr1.vars fr1.base ys [] fr1.cells with
      | none => rw [q] at o1; exact o1.elim
      | some r =>
        obtain ⟨acc, cs⟩ := r
        rw [q] at o1
        intro ad' H' ks F' m' e' r'
        have hDp : D ∉ c.prot := fun z => by
          obtain ⟨_, u, e⟩ := F1.pr D z
          rw [hD] at e; cases e
        have F2 := F'.adopt (cl := .dct false acc) (he_new F1 hD) hDp ⟨ks, e', r'⟩
        refine o1 _ _ F2 ⟨m'.keep, fun i y z => snoc_pre (m'.pre i y z), fun a h => ?_, m'.there⟩ _ ⟨D, rfl, by rw [F'.clen]; simp⟩
        rcases List.mem_append.mp h with h | h
        · exact m'.new a h
        · have e : a = D := by simpa using h
          exact .inr (by rw [e]; exact hD)
    | false =>
      refine (Out.bind F o).mono fun ys fr1 ad1 H1 F1 m1 o1 _ D hD => ?_
      cases q : compD ow g t fk fv fr1.vars fr1.base ys [] fr1.cells with
      | none => rw [q] at o1; exact o1.elim
      | some r =>
        obtain ⟨acc, cs⟩ := r
        rw [q] at o1
        intro ad' H' ks F' m' e' r'
        have hDp : D ∉ c.prot := fun z => by
          obtain ⟨_, u, e⟩ := F1.pr D z
          rw [hD] at e; cases e
        exact o1 _ _ F'.unhold m' _ ⟨D, rfl, ⟨⟨.inl (he_new F1 hD), hDp⟩, (F'.pr D (List.mem_cons_self ..)).1⟩, DctAt.r ⟨ks, e', Paired.mapP r' fun _ _ ⟨z1, z2, z3⟩ => ⟨z1, z2, z3.mono okP_hold⟩⟩⟩
  refine ⟨c, fr, ad, F, o'.mono fun ys fr1 ad1 H1 F1 m1 o1 J qs hq wk D hD => ?_⟩
  replace o1 := o1 F1 D hD
  have hDe := he_new F1 hD
  have gr1 : Grow H1 (upd H1 D (.dK [])) := Grow.new hD
  have F1h := (F1.plus hq).holdO (o0 := .dK []) hD
  refine ⟨fun i m H => i ≤ ys.length ∧ m = ys.length - i ∧ ∃ (acc : List (PyData × PyData)) (cs : List Cell) (ad : List (Option Addr)) (ks : List (Key × V)), FR (pX X) ((c.plus qs).hold D) ⟨fr1.vars, cs, fr1.base⟩ ad σ H ∧ H D = some (.dK ks) ∧ Paired (PrF (pX X) H (okP ((c.plus qs).hold D) ad)) ks acc ∧ Mv H1 ad1 H ad ∧
      (match compD ow g t fk fv fr1.vars fr1.base (ys.drop i) acc cs with
        | some (acc, cs) => ∀ ad' H' ks, FR (pX X) (c.hold D) ⟨fr1.vars, cs, fr1.base⟩ ad' σ H' → Mv H1 ad1 H' ad' → H' D = some (.dK ks) → Paired (PrF (pX X) H' (okP (c.hold D) ad')) ks acc → Q (.ref D) H'
        | none => False), ⟨ys.length, Nat.zero_le _, by simp, [], fr1.cells, ad1, [], F1h, upd_same, .nil, Mv.grow gr1, ?_⟩, ?_⟩
  · rw [List.drop_zero]; exact o1
  · rintro i m H2 ⟨hi2, rfl, acc, cs, ad2, ks, F2, hD2, racc, m2, o2⟩
    by_cases hlt : i < ys.length
    · right
      have ey : ys[i]? = some ys[i] := by rw [List.getElem?_eq_getElem hlt]
      obtain ⟨h1, h2⟩ := wk.go _ H2 i _ (FR.ghs (c := c.hold D) ⟨F2.len, F2.var, F2.clen, F2.cel, F2.nd, F2.old, F2.sub, F2.adw, F2.gh, F2.pr, F2.bs⟩) ey
      refine ⟨h1, _, fun H' h => ⟨ys.length - (i + 1), by omega, hlt, rfl, h⟩, fun v H3 hy => ?_⟩
      obtain ⟨gr, rv⟩ := h2 v H3 hy
      rw [List.drop_eq_getElem_cons hlt] at o2
      unfold compD at o2
      have F3 := F2.grow gr
      have D3 := gr D _ hD2
      have prK : ∀ {Ha Hb : Hp} {oka okb : Addr → Prop} {ks : List (Key × V)} {acc : List (PyData × PyData)}, Keep Ha Hb oka okb → Paired (PrF (pX X) Ha oka) ks acc → Paired (PrF (pX X) Hb okb) ks acc := fun k r => Paired.mapP r fun _ _ ⟨z1, z2, z3⟩ => ⟨z1, z2, z3.keep k⟩
      have r3 := prK (gr.keep (ok := okP ((c.plus qs).hold D) ad2)) racc
      cases q1 : g ys[i] ⟨kill ow fr1.vars, cs, fr1.base⟩ with
      | none => rw [q1] at o2; exact o2.elim
      | some fr4 =>
        rw [q1] at o2
        simp only at o2
        refine ⟨(c.plus qs).hold D, ⟨kill ow fr1.vars, cs, fr1.base⟩, ad2, _, fr4, F3.wipe ow, rv, q1, fun σ4 F4 oa => ⟨?_, (c.plus qs).hold D, fr4, ad2, F4, ?_⟩⟩
        · rw [oa ow hsub]
          exact wipe_sub fun _ h => h
        · cases q2 : t fr4 with
          | exc cl fs fr5 => rw [q2] at o2; exact o2.elim
          | err => rw [q2] at o2; exact o2.elim
          | ok b fr5 =>
            rw [q2] at o2
            simp only at o2
            intro ad5 H5 F5 m5
            have B5 := F3.back m5 F5
            have M5 : Mv H1 ad1 H5 ad5 := (m2.trans F1 (Mv.grow gr)).trans F1 m5
            have D5 := m5.keep D _ D3 (F3.pr D (List.mem_cons_self ..)).1
            have r5 := prK (m5.kp F3) r3
            cases b with
            | false =>
              simp only [Bool.false_eq_true, if_false] at o2 ⊢
              exact ⟨acc, fr5.cells, ad5, ks, B5, D5, r5, M5, o2⟩
            | true =>
              simp only [if_true] at o2 ⊢
              refine ⟨(c.plus qs).hold D, fr5, ad5, F5, ?_⟩
              cases q3 : fk fr5 with
              | exc cl fs fr6 => rw [q3] at o2; exact o2.elim
              | err => rw [q3] at o2; exact o2.elim
              | ok av fr6 =>
                rw [q3] at o2
                intro ad6 H6 F6 m6 w rw_
                cases av with
                | dat zk =>
                  simp only at o2
                  have B6 := B5.back m6 F6
                  have M6 := M5.trans F1 m6
                  have D6 := m6.keep D _ D5 (B5.pr D (List.mem_cons_self ..)).1
                  have r6 := prK (m6.kp B5) r5
                  refine ⟨(c.plus qs).hold D, fr6, ad6, F6, ?_⟩
                  cases q4 : fv fr6 with
                  | exc cl fs fr7 => rw [q4] at o2; exact o2.elim
                  | err => rw [q4] at o2; exact o2.elim
                  | ok bv fr7 =>
                    rw [q4] at o2
                    intro ad7 H7 F7 m7 u ru
                    cases bv with
                    | dat zv =>
                      simp only at o2
                      by_cases hh : kOk false zk = true ∧ acc.length < 1000000
                      rotate_left
                      · rw [if_neg hh] at o2; exact o2.elim
                      rw [if_pos hh] at o2
                      have B7 := B6.back m7 F7
                      have M7 := M6.trans F1 m7
                      have D7 := m7.keep D _ D6 (B6.pr D (List.mem_cons_self ..)).1
                      have r7 := prK (m7.kp B6) r6
                      obtain ⟨n, rfl⟩ := kOk_f hh.1
                      obtain ⟨z1, z2⟩ := rep_key rw_
                      obtain ⟨F8, k8⟩ := B7.fillK hDe (ks' := putK ks n u) D7
                      have len := Paired.length r7
                      refine ⟨ks, n, z1, D7, by rw [sizeLine_eq]; omega, kput acc (keyD n) zv, fr7.cells, ad7, putK ks n u, F8, upd_same, prK k8 (put_f r7 z2 ru), ?_, o2⟩
                      refine ⟨fun b u e n => ?_, M7.pre, M7.new, fun b h => ?_⟩
                      · have nb : b ≠ D := fun z => by rw [z, hD] at e; cases e
                        rw [upd_ne nb]; exact M7.keep b u e n
                      · by_cases z : b = D
                        · subst z; rw [upd_same]; simp
                        · rw [upd_ne z]; exact M7.there b h
                    | _ => exact o2.elim
                | _ => exact o2.elim
    · have e1 : i = ys.length := by omega
      subst e1
      left
      refine ⟨wk.stop _ H2 (FR.ghs (c := c.hold D) ⟨F2.len, F2.var, F2.clen, F2.cel, F2.nd, F2.old, F2.sub, F2.adw, F2.gh, F2.pr, F2.bs⟩), ?_⟩
      rw [List.drop_length] at o2
      have o3 : ∀ ad' H' ks, FR (pX X) (c.hold D) ⟨fr1.vars, cs, fr1.base⟩ ad' σ H' → Mv H1 ad1 H' ad' → H' D = some (.dK ks) → Paired (PrF (pX X) H' (okP (c.hold D) ad')) ks acc → Q (.ref D) H' := o2
      have F2' : FR (pX X) (c.hold D) ⟨fr1.vars, cs, fr1.base⟩ ad2 σ H2 := FR.less (qs := qs) ⟨F2.len, F2.var, F2.clen, F2.cel, F2.nd, F2.old, F2.sub, F2.adw, F2.gh, F2.pr, F2.bs⟩
      exact o3 ad2 H2 ks F2' m2 hD2 racc
theorem ae_dc (hc : X.calm = true) (hN : X.N.Nodup) (hi : AI X x tg e ef) (ok : BlkOk X.N X.env.scope scope own) (hg : Blk X scope fun Y => AG Y tg is g) (ht : Blk X scope fun Y => ATs Y (xb x) ifs t) (hk : Blk X scope fun Y => AE Y (xb x) kx fk) (he : Blk X scope fun Y => AE Y (xb x) vx fv)
    (hsub : ∀ i ∈ is, i ∈ own.map (·.2)) (hs : ∀ z, foldedSetIterable e X.env z = pure z := by intro _; rfl) : AE X x (.DictComp kx vx [⟨tg, e, ifs, 0⟩] scope pos) (xDComp (own.map (·.2)) ef g t fk fv) :=
  (pe_dc hc hN hi ok hg ht hk he hs).imp fun σ H Q h => dc_read false hsub (by simpa only [Bool.false_eq_true, if_false] using h)
theorem ae_dcF (hc : X.calm = true) (hN : X.N.Nodup) (hi : AI X x tg e ef) (ok : BlkOk X.N X.env.scope scope own) (hg : Blk X scope fun Y => AG Y tg is g) (ht : Blk X scope fun Y => ATs Y (xb x) ifs t) (hk : Blk X scope fun Y => AE Y (xb x) kx fk) (he : Blk X scope fun Y => AE Y (xb x) vx fv)
    (hsub : ∀ i ∈ is, i ∈ own.map (·.2)) (hs : ∀ z, foldedSetIterable e X.env z = pure z := by intro _; rfl) : AE X x (.DictComp kx vx [⟨tg, e, ifs, 0⟩] scope pos) (xDCompF (own.map (·.2)) ef g t fk fv) :=
  (pe_dc hc hN hi ok hg ht hk he hs).imp fun σ H Q h => dc_read true hsub (by simpa only [if_true] using h)
end
end G
/-! GZ: list comprehensions to be written on; calls with keywords; sum, max. -/
namespace G
open PySem PySem.Spec PyProof.Rows L2
@[simp] def xCompF (own : List Nat) (e : Fr → Res (List PyData)) (g : Tg) (t : Fr → Res Bool) (f : Fr → Res AV) : Fr → Res AV := fun fr => (e fr).bind fun ys fr1 => if ys.length ≤ 1000000 then (match compA own g t f fr1.vars fr1.base ys [] fr1.cells with
  | some (acc, cs) => .ok (.cel cs.length) ((⟨fr1.vars, cs, fr1.base⟩ : Fr).newc (.lst acc))
  | none => .err) else .err
section
variable {X : Cx} {x : XW} {tg e elt : Expr} {ef : Fr → Res (List PyData)} {g : Tg} {t : Fr → Res Bool} {f : Fr → Res AV} {is : List Nat} {pos : Pos} {ifs : List Expr} {scope : Scope} {own : List (Str × Nat)}
theorem lcF_read {σ : L2.St} {H : Hp} {Q : VK} (hsub : ∀ i ∈ is, i ∈ own.map (·.2)) (h : tE (pX X) x (xCompF (own.map (·.2)) ef g t f) σ H Q) :
    tLc (tI (pX X) x ef) (tG (pX X) is g) (tT (pX X) (xb x) t) (tE (pX X) (xb x) f) (own.map (·.2)) σ H Q := by
  obtain ⟨c, fr, ad, F, o⟩ := h
  refine ⟨c, fr, ad, F, (Out.bind F o).mono fun ys fr1 ad1 H1 F1 m1 o1 J qs hq wk D hD => ?_⟩
  by_cases hlen : ys.length ≤ 1000000
  rotate_left
  · rw [if_neg hlen] at o1; exact o1.elim
  rw [if_pos hlen] at o1
  have hDe := he_new F1 hD
  have gr1 : Grow H1 (upd H1 D (.lst [])) := Grow.new hD
  have F1h := (F1.plus hq).hold (vs := []) hD
  have Dad : some D ∉ ad1 := (F1h.pr D (List.mem_cons_self ..)).1
  generalize hown : own.map (·.2) = ow at *
  refine ⟨fun i m H => i ≤ ys.length ∧ m = ys.length - i ∧ ∃ (acc : List PyData) (cs : List Cell) (ad : List (Option Addr)) (vs : List V), FR (pX X) ((c.plus qs).hold D) ⟨fr1.vars, cs, fr1.base⟩ ad σ H ∧ H D = some (.lst vs) ∧ RepL X.K H (okP ((c.plus qs).hold D) ad) vs acc ∧ acc.length ≤ i ∧ Mv H1 ad1 H ad ∧
      (match compA ow g t f fr1.vars fr1.base (ys.drop i) acc cs with
        | some (r, cs') => ∀ ad' H' vs, FR (pX X) (c.hold D) ⟨fr1.vars, cs', fr1.base⟩ ad' σ H' → Mv H1 ad1 H' ad' → H' D = some (.lst vs) → RepL X.K H' (okP (c.hold D) ad') vs r → r.length ≤ 1000000 → Q (.ref D) H'
        | none => False), ⟨ys.length, Nat.zero_le _, by simp, [], fr1.cells, ad1, [], F1h, upd_same, .nil, Nat.le_refl _, Mv.grow gr1, ?_⟩, ?_⟩
  · rw [List.drop_zero]
    cases q : compA ow g t f fr1.vars fr1.base ys [] fr1.cells with
    | none => rw [q] at o1; exact o1.elim
    | some r =>
      obtain ⟨r, cs'⟩ := r
      rw [q] at o1
      intro ad' H' vs F' m' e' r' hl'
      have hDp : D ∉ c.prot := fun z => by
        obtain ⟨_, u, e⟩ := F1.pr D z
        rw [hD] at e; cases e
      have F2 := F'.adopt (cl := .lst r) hDe hDp ⟨vs, e', by rw [sizeLine_eq]; omega, r'⟩
      refine o1 _ _ F2 ⟨m'.keep, fun i y z => snoc_pre (m'.pre i y z), fun a h => ?_, m'.there⟩ _ ⟨D, rfl, by rw [F'.clen]; simp⟩
      rcases List.mem_append.mp h with h | h
      · exact m'.new a h
      · have e : a = D := by simpa using h
        exact .inr (by rw [e]; exact hD)
  · rintro i m H2 ⟨hi2, rfl, acc, cs, ad2, vs, F2, hD2, racc, hacc, m2, o2⟩
    by_cases hlt : i < ys.length
    · right
      have ey : ys[i]? = some ys[i] := by rw [List.getElem?_eq_getElem hlt]
      obtain ⟨h1, h2⟩ := wk.go _ H2 i _ (FR.ghs (c := c.hold D) ⟨F2.len, F2.var, F2.clen, F2.cel, F2.nd, F2.old, F2.sub, F2.adw, F2.gh, F2.pr, F2.bs⟩) ey
      refine ⟨h1, _, fun H' h => ⟨ys.length - (i + 1), by omega, hlt, rfl, h⟩, fun v H3 hy => ?_⟩
      obtain ⟨gr, rv⟩ := h2 v H3 hy
      rw [List.drop_eq_getElem_cons hlt] at o2
      unfold compA at o2
      have F3 := F2.grow gr
      have D3 := gr D _ hD2
      have r3 := racc.keep (gr.keep (ok := okP ((c.plus qs).hold D) ad2))
      cases q1 : g ys[i] ⟨kill ow fr1.vars, cs, fr1.base⟩ with
      | none => rw [q1] at o2; exact o2.elim
      | some fr4 =>
        rw [q1] at o2
        simp only at o2
        refine ⟨(c.plus qs).hold D, ⟨kill ow fr1.vars, cs, fr1.base⟩, ad2, _, fr4, F3.wipe ow, rv, q1, fun σ4 F4 oa => ⟨?_, (c.plus qs).hold D, fr4, ad2, F4, ?_⟩⟩
        · rw [oa ow hsub]
          exact wipe_sub fun _ h => h
        · cases q2 : t fr4 with
          | exc cl fs fr5 => rw [q2] at o2; exact o2.elim
          | err => rw [q2] at o2; exact o2.elim
          | ok b fr5 =>
            rw [q2] at o2
            simp only at o2
            intro ad5 H5 F5 m5
            have B5 := F3.back m5 F5
            have M5 : Mv H1 ad1 H5 ad5 := (m2.trans F1 (Mv.grow gr)).trans F1 m5
            have D5 := m5.keep D _ D3 (F3.pr D (List.mem_cons_self ..)).1
            have r5 := r3.keep (m5.kp F3)
            cases b with
            | false =>
              simp only [Bool.false_eq_true, if_false] at o2 ⊢
              exact ⟨acc, fr5.cells, ad5, vs, B5, D5, r5, by omega, M5, o2⟩
            | true =>
              simp only [if_true] at o2 ⊢
              refine ⟨(c.plus qs).hold D, fr5, ad5, F5, ?_⟩
              cases q3 : f fr5 with
              | exc cl fs fr6 => rw [q3] at o2; exact o2.elim
              | err => rw [q3] at o2; exact o2.elim
              | ok av fr6 =>
                rw [q3] at o2
                intro ad6 H6 F6 m6 w rw_
                cases av with
                | dat z =>
                  simp only at o2
                  have B6 := B5.back m6 F6
                  have M6 := M5.trans F1 m6
                  have D6 := m6.keep D _ D5 (B5.pr D (List.mem_cons_self ..)).1
                  have r6 := r5.keep (m6.kp B5)
                  have len := r6.length
                  obtain ⟨F7, k7⟩ := B6.fill hDe (ws := vs ++ [w]) D6
                  refine ⟨vs, D6, by rw [sizeLine_eq]; omega, acc ++ [z], fr6.cells, ad6, vs ++ [w], F7, upd_same, RepL.append (r6.keep k7) (.cons (Rep.keep k7 rw_) .nil), by simp; omega, ?_, o2⟩
                  refine ⟨fun b u e n => ?_, M6.pre, M6.new, fun b h => ?_⟩
                  · have nb : b ≠ D := fun z => by rw [z, hD] at e; cases e
                    rw [upd_ne nb]; exact M6.keep b u e n
                  · by_cases z : b = D
                    · subst z; rw [upd_same]; simp
                    · rw [upd_ne z]; exact M6.there b h
                | _ => exact o2.elim
    · have e1 : i = ys.length := by omega
      subst e1
      left
      refine ⟨wk.stop _ H2 (FR.ghs (c := c.hold D) ⟨F2.len, F2.var, F2.clen, F2.cel, F2.nd, F2.old, F2.sub, F2.adw, F2.gh, F2.pr, F2.bs⟩), ?_⟩
      rw [List.drop_length] at o2
      have o3 : ∀ ad' H' vs, FR (pX X) (c.hold D) ⟨fr1.vars, cs, fr1.base⟩ ad' σ H' → Mv H1 ad1 H' ad' → H' D = some (.lst vs) → RepL X.K H' (okP (c.hold D) ad') vs acc → acc.length ≤ 1000000 → Q (.ref D) H' := o2
      have F2' : FR (pX X) (c.hold D) ⟨fr1.vars, cs, fr1.base⟩ ad2 σ H2 := FR.less (qs := qs) ⟨F2.len, F2.var, F2.clen, F2.cel, F2.nd, F2.old, F2.sub, F2.adw, F2.gh, F2.pr, F2.bs⟩
      exact o3 ad2 H2 vs F2' m2 hD2 racc (by omega)
theorem ae_lcF (hc : X.calm = true) (hN : X.N.Nodup) (hi : AI X x tg e ef) (ok : BlkOk X.N X.env.scope scope own) (hg : Blk X scope fun Y => AG Y tg is g) (ht : Blk X scope fun Y => ATs Y (xb x) ifs t) (he : Blk X scope fun Y => AE Y (xb x) elt f)
    (hsub : ∀ i ∈ is, i ∈ own.map (·.2)) (hs : ∀ z, foldedSetIterable e X.env z = pure z := by intro _; rfl) : AE X x (.ListComp elt [⟨tg, e, ifs, 0⟩] scope pos) (xCompF (own.map (·.2)) ef g t f) :=
  (pe_lc hc hN hi ok hg ht he hs).imp fun σ H Q h => lcF_read hsub h
theorem as_setLcF {i : Nat} {n : Str} {p1 spos : Pos} (hc : X.calm = true) (hN : X.N.Nodup) (hy : X.N[i]? = some n) (hyl : X.env.scope.names.lookup n = some .local) (hsw : swapsWith (.ListComp elt [⟨tg, e, ifs, 0⟩] scope pos) (some (.Name n p1)) spos.line X.env = pure true)
    (hi : AI X x tg e ef) (ok : BlkOk X.N X.env.scope scope own) (hg : Blk X scope fun Y => AG Y tg is g) (ht : Blk X scope fun Y => ATs Y (xb x) ifs t) (he : Blk X scope fun Y => AE Y (xb x) elt f)
    (hsub : ∀ i ∈ is, i ∈ own.map (·.2)) (hs : ∀ z, foldedSetIterable e X.env z = pure z := by intro _; rfl) : AS X x (.Assign [.Name n p1] (.ListComp elt [⟨tg, e, ifs, 0⟩] scope pos) spos) (sSet i (xCompF (own.map (·.2)) ef g t f)) :=
  (ps_setLc hc hN hy hyl hsw hi ok hg ht he hs).imp fun D σ H ⟨c, fr, ad, F, o⟩ => lcF_read hsub ⟨c, fr, ad, F, (SOut.of F o).mono fun av fr1 ad1 H1 F1 m1 o1 v rv => o1 ad1 _ H1 (F1.setv rv)⟩
end

/-! ### calls with keyword-only arguments -/
@[simp] def xApp (g1 g2 : Fr → Res (List AV)) : Fr → Res (List AV) := fun fr => (g1 fr).bind fun as fr1 => (g2 fr1).bind fun bs fr2 => .ok (as ++ bs) fr2
@[simp] def noExc (m : AFun) : AFun := fun as cs => match m as cs with
  | .ok r cs' => .ok r cs'
  | _ => .err
theorem spF_noExc {p : Par} {C : CExc} {m : AFun} {n : Nat} {vs : List V} {H : Hp} {Q : VK} {E E' : XK} (h : spF p C (noExc m) n vs H Q E) : spF p C m n vs H Q E' := by
  obtain ⟨h1, S, W0, as, cells, h2, h3, h4, h5, h6⟩ := h
  refine ⟨h1, S, W0, as, cells, h2, h3, h4, h5, ?_⟩
  unfold noExc at h6
  cases q : m as cells with
  | ok r cs => rw [q] at h6; exact h6
  | exc c fs cs => rw [q] at h6; exact h6.elim
  | err => rw [q] at h6; exact h6.elim
theorem RepAs.mv {p : Par} {c : Ent} {fr : Fr} {ad ad' : List (Option Addr)} {σ : L2.St} {H H' : Hp} (F : FR p c fr ad σ H) (m : Mv H ad H' ad') {vs : List V} {as : List AV} (r : RepAs p H (okP c ad) ad vs as) : RepAs p H' (okP c ad') ad' vs as := by
  induction r with
  | nil => exact .nil
  | cons h _ ih => exact .cons (RepA.mv F m h) ih
theorem RepAs.app {p : Par} {H : Hp} {ok : Addr → Prop} {ad : List (Option Addr)} {vs ws : List V} {as bs : List AV} (r : RepAs p H ok ad vs as) (s : RepAs p H ok ad ws bs) : RepAs p H ok ad (vs ++ ws) (as ++ bs) := by
  induction r with
  | nil => exact s
  | cons h _ ih => exact .cons h ih
section
variable {X : Cx} {x : XW} {a d : Expr} {es : List Expr} {f : Fr → Res AV} {gs gs2 : Fr → Res (List AV)} {pos : Pos} {kws : List Keyword}
theorem tA_app {σ : L2.St} {H : Hp} {Q : List V → Hp → Prop} (h : tA (pX X) x (xApp gs gs2) σ H Q) : tA (pX X) x gs σ H fun vs H1 => tA (pX X) x gs2 σ H1 fun ws H2 => Q (vs ++ ws) H2 := by
  obtain ⟨c, fr, ad, F, o⟩ := h
  refine ⟨c, fr, ad, F, (Out.bind F o).mono fun as fr1 ad1 H1 F1 m1 o1 vs rvs => ?_⟩
  exact ⟨c, fr1, ad1, F1, (Out.bind F1 o1).mono fun bs fr2 ad2 H2 F2 m2 o2 ws rws => o2 ad2 H2 F2 Mv.refl _ ((RepAs.mv F1 m2 rvs).app rws)⟩
abbrev AK (X : Cx) (x : XW) (ks : List Keyword) (g : Fr → Res (List AV)) : Prop := PK X ks (tA (pX X) x g)
theorem ak_nil : AK X x [] xNil := ⟨fun pos pins s σ H Q I ⟨c, fr, ad, F, o⟩ => pk_nil.run pos pins s σ H Q I (o ad H F Mv.refl [] .nil)⟩
theorem ak_cons {nm : Option Str} {kpos : Pos} (ha : AE X x a f) (hr : AK X x kws gs) : AK X x (⟨nm, a, kpos⟩ :: kws) (xCons f gs) :=
  ⟨fun pos pins s σ H Q I ⟨c, fr, ad, F, o⟩ => (pk_cons ha hr).run pos pins s σ H Q I ⟨c, fr, ad, F, (Out.bind F o).mono fun av fr1 ad1 H1 F1 m1 o1 v rv => ⟨c, fr1, ad1, F1, (Out.bind F1 o1).mono fun as fr2 ad2 H2 F2 m2 o2 vs rvs => o2 ad2 H2 F2 Mv.refl _ (.cons (RepA.mv F1 m2 rv) rvs)⟩⟩⟩
/-- a def with one keyword-only parameter, its default a tuple -/
structure DefK (P : Program) (w : World) (K : PySem.W.Frag) (mg : Str → Option Value) (base : Heap) (CX : CXT) (C : CExc) (k : Nat) (n : Str) (np : Nat) (kn : Str) (dds : List PyData) (m : AFun) : Prop where
  ex : ∃ (f : Addr) (fd : FuncData) (ps : List Str), FnOk P w K mg base CX k f fd ps (spF ⟨P, w, K⟩ C m (np + 1)) ∧ mg n = some (.ref f) ∧ PySem.W.keepIn K (.ref f) = true ∧ KBn K fd ps np [kn] (fun us ws => us ++ ws) (fun vs zs => vs ++ zs) ∧
    ∃ (A : Addr) (dvs : List V) (ds : List Value), Vals [V.ref A] ds ∧ Binds K fd ps ds ∧ (∀ H, SqT K H A dvs) ∧ ∀ H ok, RepL K H ok dvs dds
theorem run_kwN {CX : CXT} {k n : Nat} {f0 : Addr} {fd : FuncData} {ps ks : List Str} {sp : Sp} {g : List Value → List Value → List Value} {gV : List V → List V → List V} {E : XK} (hE : Passes CX X E) (F : FnOk X.prog X.w X.K X.mg X.base CX k f0 fd ps sp) (hr : Room k X.A) (n1 : Str) {p1 : Pos} (hg : Gl X n1) (hm : X.mg n1 = some (.ref f0)) (hk : PySem.W.keepIn X.K (.ref f0) = true) (hb : KBn X.K fd ps n ks g gV)
    {t tk : TA} (ha : PA X (a :: es) t) (hkw : PK X kws tk) (hall : (backToKw pos (keywordEach kws X.env)).all (·.1.isSome) = true) (hks : (backToKw pos (keywordEach kws X.env)).filterMap (·.1) = ks)
    (hdb : (n1 == ("__debug__" : Str)) = false) (he : starEach (a :: es) X.env = (false, eval a X.env) :: starEach es X.env) (hpl : ((backTo pos (starEach (a :: es) X.env)).any (·.1) || (backToKw pos (keywordEach kws X.env)).any (·.1.isNone)) = false) :
    PE X (.Call (.Name n1 p1) (a :: es) kws pos) (tCallN n ks.length sp gV E t tk) := pe_callN F hr hg hm hk hb hE ha hkw hall hks hdb he hpl
theorem ae_callK {CX : CXT} {k j : Nat} {n kn : Str} {m : AFun} {dds : List PyData} {p1 : Pos} {np : Nat} (hE : Passes CX X fun _ _ _ => False) (D : DefK X.prog X.w X.K X.mg X.base CX x.C k n np kn dds m) (hr : Room j X.A) (hk : k ≤ j) (hg : Gl X n) (ha : AA X x (a :: es) gs) (hn : ∀ fr as fr', gs fr = .ok as fr' → as.length = np) (hkw : AK X x kws gs2) (hn2 : ∀ fr as fr', gs2 fr = .ok as fr' → as.length = 1)
    (hall : (backToKw pos (keywordEach kws X.env)).all (·.1.isSome) = true := by rfl) (hks : (backToKw pos (keywordEach kws X.env)).filterMap (·.1) = [kn] := by rfl)
    (hdb : (n == ("__debug__" : Str)) = false := by decide) (he : starEach (a :: es) X.env = (false, eval a X.env) :: starEach es X.env := by rfl) (hpl : ((backTo pos (starEach (a :: es) X.env)).any (·.1) || (backToKw pos (keywordEach kws X.env)).any (·.1.isNone)) = false := by rfl) :
    AE X x (.Call (.Name n p1) (a :: es) kws pos) (xCall (noExc m) (xApp gs gs2)) := by
  obtain ⟨f0, fd, ps, F, hm, kp, b, _⟩ := D.ex
  refine (run_kwN hE F (hr.mono hk) n hg hm kp b ha hkw hall hks hdb he hpl).imp fun σ H Q h => ?_
  have hlen : ∀ fr as fr', xApp gs gs2 fr = .ok as fr' → as.length = np + 1 := fun fr as fr' e => by
    unfold xApp at e
    cases q1 : gs fr with
    | ok as1 fr1 =>
      rw [q1] at e
      simp only [Res.bind] at e
      cases q2 : gs2 fr1 with
      | ok as2 fr2 =>
        rw [q2] at e
        cases e
        rw [List.length_append, hn _ _ _ q1, hn2 _ _ _ q2]
      | exc c fs f2 => rw [q2] at e; cases e
      | err => rw [q2] at e; cases e
    | exc c fs f2 => rw [q1] at e; cases e
    | err => rw [q1] at e; cases e
  have z := tA_app (tE_call hlen h)
  unfold tCallN
  obtain ⟨c, fr, ad, F0, o⟩ := z
  refine ⟨c, fr, ad, F0, ?_⟩
  have oo := o
  cases q1 : gs fr with
  | exc cl fs fr1 => rw [q1] at oo; exact oo
  | err => rw [q1] at oo; exact oo
  | ok as fr1 =>
    rw [q1] at oo
    intro ad1 H1 F1 m1 vs rvs
    have l1 : vs.length = np := (Paired.length rvs).trans (hn _ _ _ q1)
    obtain ⟨c2, fr2, ad2, F2, o2⟩ := oo ad1 H1 F1 m1 vs rvs
    refine ⟨c2, fr2, ad2, F2, ?_⟩
    cases q2 : gs2 fr2 with
    | exc cl fs fr3 => rw [q2] at o2; exact o2
    | err => rw [q2] at o2; exact o2
    | ok bs fr3 =>
      rw [q2] at o2
      intro ad3 H3 F3 m3 ws rws
      exact ⟨l1, (Paired.length rws).trans (hn2 _ _ _ q2), spF_noExc (o2 ad3 H3 F3 m3 ws rws)⟩
/-- .. the default taken -/
theorem ae_callD {CX : CXT} {k j : Nat} {n kn : Str} {m : AFun} {dds : List PyData} {p1 : Pos} {np : Nat} (hE : ∀ σ, PassesAt CX X σ fun _ _ _ => False) (D : DefK X.prog X.w X.K X.mg X.base CX x.C k n np kn dds m) (hr : Room j X.A) (hk : k ≤ j) (hg : Gl X n) (ha : AA X x (a :: es) gs) (hn : ∀ fr as fr', gs fr = .ok as fr' → as.length = np) (hz : dds.length ≤ 1000 := by decide)
    (hdb : (n == ("__debug__" : Str)) = false := by decide) (he : starEach (a :: es) X.env = (false, eval a X.env) :: starEach es X.env := by rfl) (hpl : (backTo pos (starEach es X.env)).any (·.1) = false := by rfl) :
    AE X x (.Call (.Name n p1) (a :: es) [] pos) (xCall (noExc m) (xApp gs (xCons (xC (.tuple dds)) xNil))) := by
  obtain ⟨f0, fd, ps, F, hm, kp, _, A, dvs, ds, rd, b, hT, hR⟩ := D.ex
  refine (pe_callSD F (hr.mono hk) hg hm kp b rd (E := fun _ _ _ _ => False) hE ha hdb he hpl).imp fun σ H Q h => ?_
  have hlen : ∀ fr as fr', xApp gs (xCons (xC (.tuple dds)) xNil) fr = .ok as fr' → as.length = np + 1 := fun fr as fr' e => by
    unfold xApp at e
    cases q1 : gs fr with
    | ok as1 fr1 =>
      rw [q1] at e
      simp only [Res.bind, xCons, xC, xNil] at e
      cases e
      rw [List.length_append, hn _ _ _ q1]; rfl
    | exc c fs f2 => rw [q1] at e; cases e
    | err => rw [q1] at e; cases e
  have z := tA_app (tE_call hlen h)
  unfold tCallSD
  obtain ⟨c, fr, ad, F0, o⟩ := z
  refine ⟨c, fr, ad, F0, o.mono fun as fr1 ad1 H1 F1 m1 o1 vs rvs => ?_⟩
  obtain ⟨c2, fr2, ad2, F2, o2⟩ := o1 vs rvs
  have o3 := o2 ad2 H1 F2 Mv.refl [V.ref A] (.cons (Rep.tup (hT H1) (by rw [sizeLine_eq]; omega) (hR H1 _)) .nil)
  exact spF_noExc o3
theorem passK0 : Passes CX0 X fun _ _ _ => False := fun _ _ _ _ _ _ _ z => z.elim
theorem passD0 : ∀ σ, PassesAt CX0 X σ fun _ _ _ => False := fun _ _ _ _ _ _ _ z => z.elim
end
theorem len1 {f : Fr → Res AV} : ∀ fr as fr', xCons f xNil fr = .ok as fr' → as.length = 1 := fun fr as fr' e => by
  unfold xCons xNil at e
  cases q : f fr with
  | ok a f1 => rw [q] at e; cases e; rfl
  | exc c fs f1 => rw [q] at e; cases e
  | err => rw [q] at e; cases e
theorem kbn0 {K : PySem.W.Frag} {n0 qual : Str} {params : Arguments} {body : List Stmt} {scope : Scope} {kws : List (Str × V)} {f0 : Addr} {fd : FuncData} {ps ks : List Str} {n : Nat} (F : FunD K n0 qual params body scope [] kws f0 fd)
    (h : ∀ (kV doc pm : Value) (an : Option Addr) (cdv ct : Value) (us ws : List Value), us.length = n → ws.length = ks.length → bindArgs (PySem.W.fnOf n0 qual params body scope .none kV doc pm an cdv ct) ⟨us, ks.zip ws⟩ = pure (ps.zip (us ++ ws))) : KBn K fd ps n ks (fun us ws => us ++ ws) (fun vs zs => vs ++ zs) := by
  obtain ⟨oc, od, dV, kV, doc, pm, an, cdv, ct, osl, rfl, lk, hcd, hD, hK⟩ := F.ex
  rcases hD with ⟨_, rfl⟩ | ⟨e, _⟩
  · exact ⟨fun s us ws X l1 l2 => .of_eq (h kV doc pm an cdv ct us ws l1 l2), fun r1 r2 => r1.append r2⟩
  · exact absurd rfl e
end G
/-! HA: {k: v}; sums, greatest ones, int of a truth. -/
namespace G
open PySem PySem.Spec PyProof.Rows L2

/-! ### {k: v} -/
@[simp] def xDisp1 (fk fv : Fr → Res AV) : Fr → Res AV := fun fr => (fk fr).bind fun a fr1 => (fv fr1).bind fun b fr2 => match a, b with
  | .dat k, .dat v => if kOk false k = true then .ok (.dct false [(k, v)]) fr2 else .err
  | _, _ => .err
@[simp] def xDisp1F (fk fv : Fr → Res AV) : Fr → Res AV := fun fr => (fk fr).bind fun a fr1 => (fv fr1).bind fun b fr2 => match a, b with
  | .dat k, .dat v => if kOk false k = true then .ok (.cel fr2.cells.length) (fr2.newc (.dct false [(k, v)])) else .err
  | _, _ => .err
section
variable {X : Cx} {x : XW} {kx vx : Expr} {fk fv : Fr → Res AV} {pos : Pos}
theorem disp_read (fresh : Bool) {σ : L2.St} {H : Hp} {Q : VK} (h : tE (pX X) x (if fresh = true then xDisp1F fk fv else xDisp1 fk fv) σ H Q) : tDisp [(tE (pX X) x fk, tE (pX X) x fv)] σ H Q := by
  obtain ⟨c, fr, ad, F, o⟩ := h
  intro D hD
  have gr : Grow H (upd H D (.dK [])) := Grow.new hD
  have F0 := F.holdO (o0 := .dK []) hD
  have hDe := he_new F hD
  have hDp : D ∉ c.prot := fun z => by
    obtain ⟨_, u, e⟩ := F.pr D z
    rw [hD] at e; cases e
  have er : (if fresh = true then xDisp1F fk fv else xDisp1 fk fv) fr = (fk fr).bind fun a fr1 => (fv fr1).bind fun b fr2 => match a, b with
      | .dat k, .dat v => if kOk false k = true then (if fresh = true then .ok (.cel fr2.cells.length) (fr2.newc (.dct false [(k, v)])) else .ok (.dct false [(k, v)]) fr2) else .err
      | _, _ => .err := by
    cases fresh <;> rfl
  rw [er] at o
  refine ⟨c.hold D, fr, ad, F0, ?_⟩
  cases q1 : fk fr with
  | err => rw [q1] at o; exact o
  | exc cl fs fr1 => rw [q1] at o; exact fun ad' H' C d F' m' hx => o ad' H' C d F'.unhold ((Mv.grow gr).trans F m') hx
  | ok a fr1 =>
    rw [q1] at o
    simp only [Res.bind] at o
    intro ad1 H1 F1 m1 v rv
    have M1 : Mv H ad H1 ad1 := (Mv.grow gr).trans F m1
    refine ⟨c.hold D, fr1, ad1, F1, ?_⟩
    cases q2 : fv fr1 with
    | err => rw [q2] at o; exact o
    | exc cl fs fr2 => rw [q2] at o; exact fun ad' H' C d F' m' hx => o ad' H' C d F'.unhold (M1.trans F m') hx
    | ok b fr2 =>
      rw [q2] at o
      intro ad2 H2 F2 m2 w rw_
      have M2 : Mv H ad H2 ad2 := M1.trans F m2
      cases a with
      | dat k =>
        cases b with
        | dat y =>
          simp only at o
          by_cases hk : kOk false k = true
          rotate_left
          · rw [if_neg hk] at o; exact o.elim
          rw [if_pos hk] at o
          have D1 : H1 D = some (.dK []) := m1.keep D _ upd_same (F0.pr D (List.mem_cons_self ..)).1
          have D2 := m2.keep D _ D1 (F1.pr D (List.mem_cons_self ..)).1
          have rk : Rep X.K H2 (okP (c.hold D) ad2) v k := RepA.mv F1 m2 rv
          obtain ⟨n, rfl⟩ := kOk_f hk
          obtain ⟨z1, z2⟩ := rep_key rk
          obtain ⟨F3, k3⟩ := F2.fillK hDe (ks' := mergeK [] [(n, w)]) D2
          have M3 : Mv H ad (upd H2 D (.dK (mergeK [] [(n, w)]))) ad2 := by
            refine ⟨fun b u e n => ?_, M2.pre, M2.new, fun b h => ?_⟩
            · have nb : b ≠ D := fun z => by rw [z, hD] at e; cases e
              rw [upd_ne nb]; exact M2.keep b u e n
            · by_cases z : b = D
              · subst z; rw [upd_same]; simp
              · rw [upd_ne z]; exact M2.there b h
          have pr : Paired (PrF (pX X) (upd H2 D (.dK (mergeK [] [(n, w)]))) (okP (c.hold D) ad2)) [(n, w)] [(keyD n, y)] := .cons ⟨rfl, z2, Rep.keep k3 rw_⟩ .nil
          refine ⟨D2, [(n, w)], by rw [z1]; rfl, by simp, ?_⟩
          cases fresh with
          | true =>
            have F4 := F3.adopt (cl := .dct false [(keyD n, y)]) hDe hDp ⟨_, upd_same, pr⟩
            refine o _ _ F4 ⟨M3.keep, fun i y z => snoc_pre (M3.pre i y z), fun a h => ?_, M3.there⟩ _ ⟨D, rfl, by rw [F3.clen]; simp⟩
            rcases List.mem_append.mp h with h | h
            · exact M3.new a h
            · have e : a = D := by simpa using h
              exact .inr (by rw [e]; exact hD)
          | false =>
            exact o _ _ F3.unhold M3 _ ⟨D, rfl, ⟨⟨.inl hDe, hDp⟩, (F3.pr D (List.mem_cons_self ..)).1⟩, DctAt.r ⟨_, upd_same, Paired.mapP pr fun _ _ ⟨z1, z2, z3⟩ => ⟨z1, z2, z3.mono okP_hold⟩⟩⟩
        | _ => exact o.elim
      | _ => cases b <;> exact o.elim
theorem ae_disp1 {a d : Expr} (ha : AE X x a fk) (hd : AE X x d fv) : AE X x (.Dict [some a] [d] pos) (xDisp1 fk fv) :=
  (pe_disp (pps_cons ha hd pps_nil) rfl rfl (by simp) (by simp)).imp fun σ H Q h => disp_read false (by simpa only [Bool.false_eq_true, if_false] using h)
theorem ae_disp1F {a d : Expr} (ha : AE X x a fk) (hd : AE X x d fv) : AE X x (.Dict [some a] [d] pos) (xDisp1F fk fv) :=
  (pe_disp (pps_cons ha hd pps_nil) rfl rfl (by simp) (by simp)).imp fun σ H Q h => disp_read true (by simpa only [if_true] using h)
end

/-! ### sums, the greatest, int of a truth -/
def intsD : List PyData → Option (List Int)
  | [] => some []
  | .int i :: ds => match intsD ds with
    | some is => some (i :: is)
    | none => none
  | _ :: _ => none
theorem ints_rep {K : PySem.W.Frag} {H : Hp} {ok : Addr → Prop} : ∀ {vs : List V} {ds : List PyData} {is : List Int}, RepL K H ok vs ds → intsD ds = some is → vs = is.map V.int
  | _, _, _, .nil, e => by cases e; rfl
  | _, .int i :: ds, _, .cons r rs, e => by
    unfold intsD at e
    cases q : intsD ds with
    | none => rw [q] at e; cases e
    | some is' =>
      rw [q] at e
      cases e
      rw [RepB.int (.inl r), ints_rep rs q]; rfl
  | _, .none :: _, _, .cons _ _, e => by cases e
  | _, .bool _ :: _, _, .cons _ _, e => by cases e
  | _, .str _ :: _, _, .cons _ _, e => by cases e
  | _, .list _ :: _, _, .cons _ _, e => by cases e
  | _, .tuple _ :: _, _, .cons _ _, e => by cases e
  | _, .dict _ :: _, _, .cons _ _, e => by cases e
def dSum : List PyData → Option PyData
  | [.list ds] => match intsD ds with
    | some is => some (.int is.sum)
    | none => none
  | _ => none
def maxI : List Int → Int
  | [] => 0
  | [i] => i
  | i :: is => max i (maxI is)
theorem maxI_spec : ∀ {is : List Int}, is ≠ [] → maxI is ∈ is ∧ ∀ j ∈ is, j ≤ maxI is
  | [], h => absurd rfl h
  | [i], _ => ⟨by simp [maxI], fun j hj => by simp at hj; subst hj; simp [maxI]⟩
  | i :: k :: is, _ => by
    obtain ⟨h1, h2⟩ := maxI_spec (is := k :: is) (by simp)
    have e : maxI (i :: k :: is) = max i (maxI (k :: is)) := rfl
    rw [e]
    refine ⟨?_, fun j hj => ?_⟩
    · rcases Int.le_total i (maxI (k :: is)) with h | h
      · rw [Int.max_eq_right h]; exact List.mem_cons_of_mem _ h1
      · rw [Int.max_eq_left h]; exact List.mem_cons_self ..
    · rcases List.mem_cons.mp hj with rfl | hj
      · exact Int.le_max_left ..
      · exact Int.le_trans (h2 j hj) (Int.le_max_right ..)
def dMaxL : List PyData → Option PyData
  | [.list ds] => match intsD ds with
    | some [] => none
    | some is => some (.int (maxI is))
    | none => none
  | _ => none
def dInt : List PyData → Option PyData
  | [.bool b] => some (.int (if b then 1 else 0))
  | [.int i] => some (.int i)
  | _ => none
section
variable {X : Cx}
theorem c_sum (hc : X.calm = true) : CallR X (.builtin "sum") (rCall X.K dSum) := by
  intro pins s σ H xs us Q I rx ⟨ok, ds, r, hok, hx, e, q⟩
  match ds, e with
  | [.list ds], e =>
    simp only [dSum] at e
    cases q1 : intsD ds with
    | none => rw [q1] at e; cases e
    | some is =>
      rw [q1] at e
      cases e
      obtain ⟨v, rfl, h⟩ := hx.one
      obtain ⟨l, ys, rfl, h1, z1, r1⟩ := h.list
      rw [ints_rep r1 q1] at h1
      exact cr_sum hc pins s σ H _ us Q I rx ⟨l, is, rfl, h1, q _ H Grow.refl (.int _)⟩
theorem c_maxL (hc : X.calm = true) : CallR X (.builtin "max") (rCall X.K dMaxL) := by
  intro pins s σ H xs us Q I rx ⟨ok, ds, r, hok, hx, e, q⟩
  match ds, e with
  | [.list ds], e =>
    simp only [dMaxL] at e
    cases q1 : intsD ds with
    | none => rw [q1] at e; cases e
    | some is =>
      rw [q1] at e
      obtain ⟨v, rfl, h⟩ := hx.one
      obtain ⟨l, ys, rfl, h1, z1, r1⟩ := h.list
      rw [ints_rep r1 q1] at h1
      cases is with
      | nil => cases e
      | cons i is =>
        cases e
        obtain ⟨m1, m2⟩ := maxI_spec (is := i :: is) (by simp)
        refine cr_max hc pins s σ H _ us Q I rx ⟨l, i :: is, rfl, h1, by simp, fun m hm hle => ?_⟩
        have : m = maxI (i :: is) := Int.le_antisymm (m2 m hm) (hle _ m1)
        rw [this]
        exact q _ H Grow.refl (.int _)
theorem c_int : CallR X (.type "int") (rCall X.K dInt) := by
  intro pins s σ H xs us Q I rx ⟨ok, ds, r, hok, hx, e, q⟩
  match ds, e with
  | [.bool b], e =>
    cases e
    obtain ⟨v, rfl, h⟩ := hx.one
    cases h.bool
    exact call_int1 pins s σ H _ us Q I rx (.inr ⟨b, rfl, q _ H Grow.refl (.int _)⟩)
  | [.int i], e =>
    cases e
    obtain ⟨v, rfl, h⟩ := hx.one
    cases h.int
    exact call_int1 pins s σ H _ us Q I rx (.inl ⟨i, rfl, q _ H Grow.refl (.int _)⟩)
end
end G
/-! HB: walks over the signs of a text; one text within another. -/
namespace G
open PySem PySem.Spec PyProof.Rows L2
/-- the signs of a text -/
def signs (s : Str) : List PyData := s.cps.toList.map fun c => .str ⟨#[c]⟩
def Itx (s : Str) : It := ⟨fun i _ => i < s.cps.size, fun i H x H' => H' = H ∧ ∃ c, s.cps[i]? = some c ∧ x = .str ⟨#[c]⟩, fun i _ => s.cps.size ≤ i⟩
theorem turn_textA {P : Program} {w : World} {K : PySem.W.Frag} {tg : Expr} (x : Str) (t : Tok) (it : Addr) : Turn P w K tg (Itx x) [it] it (fun i h => h.IsStrIter it "str_ascii_iterator" x t i) where
  mem := by simp
  obj := fun i h st b hb => by
    have e : b = it := by simpa using hb
    subst e
    obtain ⟨o, e, c, d⟩ := st
    exact ⟨o, e, fun v z => by rw [d] at z; cases z⟩
  keep := fun i h h' st k => let ⟨o, ho, r⟩ := st; ⟨o, k it (by simp) o ho, r⟩
  item := by
    intro X hP hw hK hc i pins s σ H E I hf st hg
    subst hP hw hK
    obtain ⟨f0, f1, f2, f3, f4, f5⟩ := hf it (by simp)
    have hgi : i < x.cps.size := hg
    have hx : x.cps[i]? = some x.cps[i] := Array.getElem?_eq_getElem hgi
    refine wpAny_pyNext_ascii_item st hx fun h' st' sb => ?_
    have I1 : Inv X pins σ H { s with heap := h', toks := s.toks + 1 } := I.turned (t' := s.toks + 1) (fun b o hb e => (sb.2 b hb).trans e) f0 f1 f3 f4 f5
    obtain ⟨o, e, c, d⟩ := id st'
    exact ⟨_, rfl, go_of (s := { s with heap := h', toks := s.toks + 1 }) e c d (by decide) ⟨.str ⟨#[x.cps[i]]⟩, H, I1, ⟨_, rfl⟩, ⟨rfl, _, hx, rfl⟩, st', fun b hb => (hf b hb).1⟩⟩
  done := by
    intro X hP hw hK hc i pins s σ H E I hf st hg
    subst hP hw hK
    obtain ⟨f0, f1, f2, f3, f4, f5⟩ := hf it (by simp)
    have hx : x.cps[i]? = none := by simp; exact hg
    exact wpAny_pyNext_ascii_end (I.ok.hd hc) st hx fun h' eb => ⟨rfl, I.turned (t' := s.toks) (fun b o hb e => eb b o hb e) f0 f1 f3 f4 f5⟩
  self := fun _ _ _ _ _ st h => wpAny_pyIter_striter_ascii st h
theorem turn_textW {P : Program} {w : World} {K : PySem.W.Frag} {tg : Expr} (x : Str) (t : Tok) (it : Addr) : Turn P w K tg (Itx x) [it] it (fun i h => h.IsStrIter it "str_iterator" x t i) where
  mem := by simp
  obj := fun i h st b hb => by
    have e : b = it := by simpa using hb
    subst e
    obtain ⟨o, e, c, d⟩ := st
    exact ⟨o, e, fun v z => by rw [d] at z; cases z⟩
  keep := fun i h h' st k => let ⟨o, ho, r⟩ := st; ⟨o, k it (by simp) o ho, r⟩
  item := by
    intro X hP hw hK hc i pins s σ H E I hf st hg
    subst hP hw hK
    obtain ⟨f0, f1, f2, f3, f4, f5⟩ := hf it (by simp)
    have hgi : i < x.cps.size := hg
    have hx : x.cps[i]? = some x.cps[i] := Array.getElem?_eq_getElem hgi
    refine wpAny_pyNext_wide_item st hx fun h' st' sb => ?_
    have I1 : Inv X pins σ H { s with heap := h', toks := s.toks + 1 } := I.turned (t' := s.toks + 1) (fun b o hb e => (sb.2 b hb).trans e) f0 f1 f3 f4 f5
    obtain ⟨o, e, c, d⟩ := id st'
    exact ⟨_, rfl, go_of (s := { s with heap := h', toks := s.toks + 1 }) e c d (by decide) ⟨.str ⟨#[x.cps[i]]⟩, H, I1, ⟨_, rfl⟩, ⟨rfl, _, hx, rfl⟩, st', fun b hb => (hf b hb).1⟩⟩
  done := by
    intro X hP hw hK hc i pins s σ H E I hf st hg
    subst hP hw hK
    obtain ⟨f0, f1, f2, f3, f4, f5⟩ := hf it (by simp)
    have hx : x.cps[i]? = none := by simp; exact hg
    exact wpAny_pyNext_wide_end (I.ok.hd hc) st hx fun h' eb => ⟨rfl, I.turned (t' := s.toks) (fun b o hb e => eb b o hb e) f0 f1 f3 f4 f5⟩
  self := fun _ _ _ _ _ st h => wpAny_pyIter_striter_wide st h
theorem wk_text {p : Par} {s : Str} (hs : PyData.strOk s = true) : Wk p (Itx s) [] (signs s) where
  go := fun ok H i y hq e => by
    unfold signs at e
    rw [List.getElem?_map] at e
    cases q : s.cps.toList[i]? with
    | none => rw [q] at e; cases e
    | some c =>
      rw [q] at e; cases e
      have q' : s.cps[i]? = some c := by rw [← Array.getElem?_toList]; exact q
      have hi : i < s.cps.size := (Array.getElem?_eq_some_iff.mp q').1
      refine ⟨hi, fun v H' ⟨h1, c', h2, h3⟩ => ?_⟩
      rw [q'] at h2; cases h2
      subst h1 h3
      refine ⟨Grow.refl, .str _ ?_⟩
      unfold PyData.strOk at hs ⊢
      rw [Array.all_eq_true_iff_forall_mem] at hs ⊢
      intro z hz
      have : z = c := by simpa using hz
      subst this
      exact hs _ (Array.mem_of_getElem? q')
  stop := fun ok H hq => by
    show s.cps.size ≤ (signs s).length
    simp [signs]
@[simp] def xSigns (f : Fr → Res AV) : Fr → Res (List PyData) := fun fr => (f fr).bind fun a fr1 => match a with
  | .dat (.str s) => .ok (signs s) fr1
  | _ => .err
section
variable {X : Cx} {x : XW} {tg e : Expr} {f : Fr → Res AV}
theorem it_text {pins : List (Addr × Obj)} {σ : L2.St} {H : Hp} {s1 : Shared} {R : It → Hp → Prop} {s : Str} {t : Tok} (I : Inv X pins σ H s1) (q : R (Itx s) H) : wpAny (model X.prog X.w) X.A (pyIter (.str s t)) (PIE X pins σ tg R) X.xe s1 := by
  have hn := I.hok.fresh (Nat.le_refl s1.heap.objs.size)
  cases ha : s.cps.all (· < 128)
  · refine wpAny_pyIter_wide ha ⟨s1.heap.objs.size, [s1.heap.objs.size], _, _, H, rfl, I.kept (t' := s1.toks) fun b o z => Heap.get?_push_of_some _ z, turn_textW s t _, ⟨_, Heap.get?_push_size _ rfl, rfl, rfl⟩, fun b hb => ?_, q⟩
    cases List.mem_singleton.mp hb
    exact I.fpOk (Nat.le_refl _) hn
  · refine wpAny_pyIter_ascii ha ⟨s1.heap.objs.size, [s1.heap.objs.size], _, _, H, rfl, I.kept (t' := s1.toks) fun b o z => Heap.get?_push_of_some _ z, turn_textA s t _, ⟨_, Heap.get?_push_size _ rfl, rfl, rfl⟩, fun b hb => ?_, q⟩
    cases List.mem_singleton.mp hb
    exact I.fpOk (Nat.le_refl _) hn
/-- a text, sign by sign -/
theorem ai_signs (ha : AE X x e f) : AI X x tg e (xSigns f) := by
  refine ⟨fun pins s σ H R I h => ?_⟩
  obtain ⟨c, fr, ad, F, o⟩ := h
  have h2 : tE (pX X) x f σ H fun v H1 => ∃ c fr1 ad1 av, FR (pX X) c fr1 ad1 σ H1 ∧ RepA (pX X) H1 (okP c ad1) ad1 v av ∧ (match av with
      | .dat (.str ys) => ∀ J qs, (∀ q ∈ qs, isDat q.2 = true ∧ RepA (pX X) H1 (okP c ad1) ad1 q.1 q.2) → Wk (pX X) J qs (signs ys) → R J H1
      | _ => False) := by
    refine ⟨c, fr, ad, F, (Out.bind F o).mono fun av fr1 ad1 H1 F1 m1 o1 v rv => ⟨c, fr1, ad1, av, F1, rv, ?_⟩⟩
    cases av with
    | dat y =>
      cases y with
      | str ys => exact o1 ad1 H1 F1 Mv.refl
      | _ => exact o1.elim
    | _ => exact o1.elim
  refine thn (ha.run pins s σ H _ I h2) fun u s1 hq => ?_
  obtain ⟨v, H1, I1, r1, c1, fr1, ad1, av, F1, rv, q⟩ := hq
  cases av with
  | dat y =>
    cases y with
    | str ys =>
      obtain ⟨rfl, hs⟩ := RepB.str (.inl rv)
      obtain ⟨t, rfl⟩ := r1
      exact it_text I1 (q _ [] (fun z hz => nomatch hz) (wk_text hs))
    | _ => exact q.elim
  | _ => exact q.elim
end
/-! ### one text within another -/
def dInS : PyData → PyData → Option PyData
  | .str a, .str b => some (.bool (!(Builtin.Str.occurrences b a 0 b.length 1).isEmpty))
  | _, _ => none
section
variable {X : Cx}
theorem o_inS : OpR X (compareOp .In) (rOp2 X.K dInS) := by
  intro pins s σ H xv yv v u Q I rx ry ⟨ok, dx, dy, r, hok, hx, hy, e, q⟩
  cases dx with
  | str a =>
    cases dy with
    | str b =>
      cases e
      obtain ⟨rfl, _⟩ := RepB.str hx
      obtain ⟨rfl, _⟩ := RepB.str hy
      exact op_in_str pins s σ H _ _ v u Q I rx ry ⟨a, b, rfl, rfl, q _ H Grow.refl (.bl _)⟩
    | _ => cases e
  | _ => cases e
end
end G
/-! HC: the greatest of a list with a default; the greatest value of a dict. -/
namespace G
open PySem PySem.Spec PyProof.Rows L2
/-! ### max(xs, default=d) -/
def dMaxDf : List PyData → Option PyData
  | [.list ds, .int d] => match intsD ds with
    | some [] => some (.int d)
    | some is => some (.int (maxI is))
    | none => none
  | _ => none
def rMaxDf (K : PySem.W.Frag) : List V → List V → Hp → VK → Prop := fun vs zs H Q => ∃ v u, vs = [v] ∧ zs = [u] ∧ rCall K dMaxDf [v, u] H Q
theorem fold_max (n : Int) : ∀ is : List Int, (is.foldl max n) ∈ n :: is ∧ ∀ j ∈ n :: is, j ≤ is.foldl max n := by
  intro is
  induction is generalizing n with
  | nil => simp
  | cons i is ih =>
    obtain ⟨h1, h2⟩ := ih (max n i)
    rw [List.foldl_cons]
    refine ⟨?_, fun j hj => ?_⟩
    · rcases List.mem_cons.mp h1 with e | e
      · rw [e]
        rcases Int.le_total n i with q | q
        · rw [Int.max_eq_right q]; simp
        · rw [Int.max_eq_left q]; simp
      · exact List.mem_cons_of_mem _ (List.mem_cons_of_mem _ e)
    · have hm := h2 (max n i) (List.mem_cons_self ..)
      rcases List.mem_cons.mp hj with rfl | hj
      · have := Int.le_max_left j i; omega
      · rcases List.mem_cons.mp hj with rfl | hj
        · have := Int.le_max_right n j; omega
        · exact h2 j (List.mem_cons_of_mem _ hj)
section
variable {X : Cx}
theorem cK_maxDf (hc : X.calm = true) (hu : X.A.units + 64 < cLine) : CallRK X (.builtin "max") [Str.ofString "default"] (rMaxDf X.K) := by
  intro pins s σ H vs zs us ws Q I r rz h
  obtain ⟨v, u, rfl, rfl, ok, ds, res, hok, hx, e, q⟩ := h
  match ds, hx, e with
  | [.list ds, .int d], .cons hl (.cons hd .nil), e =>
    simp only [dMaxDf] at e
    cases q1 : intsD ds with
    | none => rw [q1] at e; cases e
    | some is =>
      rw [q1] at e
      obtain ⟨l, ys, rfl, h1, z1, r1⟩ := hl.list
      rw [ints_rep r1 q1] at h1
      cases hd.int
      obtain ⟨its, rv, hli, _⟩ := I.list h1
      rw [Vals.ref1 r]
      obtain ⟨w0, rfl, e1⟩ := vals1 rz
      obtain ⟨t0, rfl⟩ := e1
      have hra := PyProof.Rows.ints_readAll s.heap rv.ints
      have hdep : ∀ l : List Int, PyData.depthAll (l.map PyData.int) ≤ 1 := by
        intro l
        induction l with
        | nil => simp [PyData.depthAll]
        | cons i l ih => simp [PyData.depthAll, PyData.depth]; omega
      have := hdep is
      refine PySem.W.max_list_default (I.ok.hd hc) hli.isList hra ⟨fun a ha b hb => ?_, fun a ha => ?_⟩ (by omega) (fun h0 h' tk hk => ?_) fun y ys i v h' tk bs hxs hv hrd hk => ?_
      · obtain ⟨i, _, rfl⟩ := List.mem_map.mp ha
        obtain ⟨j, _, rfl⟩ := List.mem_map.mp hb
        rfl
      · obtain ⟨i, _, rfl⟩ := List.mem_map.mp ha
        intro z; cases z
      · have : is = [] := List.map_eq_nil_iff.mp h0
        subst this
        cases e
        exact ⟨.int d, H, I.kept (t' := tk) hk, ⟨_, rfl⟩, q _ H Grow.refl (.int _)⟩
      · cases is with
        | nil => cases hxs
        | cons i0 is =>
          cases hxs
          cases e
          rw [PySem.W.maxD_ints] at hrd
          obtain ⟨t, rfl⟩ : ∃ t, v = .int (is.foldl max i0) t := by
            cases hrd; exact ⟨_, rfl⟩
          obtain ⟨m1, m2⟩ := maxI_spec (is := i0 :: is) (by simp)
          obtain ⟨g1, g2⟩ := fold_max i0 is
          have : is.foldl max i0 = maxI (i0 :: is) := Int.le_antisymm (m2 _ g1) (g2 _ m1)
          rw [this]
          exact ⟨.int _, H, I.kept (t' := tk) hk, ⟨_, rfl⟩, q _ H Grow.refl (.int _)⟩
end
section
variable {X : Cx} {x : XW} {a d : Expr} {f g : Fr → Res AV} {pos : Pos}
theorem tA_head {gs : Fr → Res (List AV)} {σ : L2.St} {H : Hp} {Q : List V → Hp → Prop} (h : tA (pX X) x (xCons f gs) σ H Q) : tE (pX X) x f σ H fun v H1 => tA (pX X) x gs σ H1 fun vs H2 => Q (v :: vs) H2 := by
  obtain ⟨c, fr, ad, F, o⟩ := h
  refine ⟨c, fr, ad, F, (Out.bind F o).mono fun av fr1 ad1 H1 F1 m1 o1 v rv => ⟨c, fr1, ad1, F1, (Out.bind F1 o1).mono fun as fr2 ad2 H2 F2 m2 o2 vs rvs => ?_⟩⟩
  exact o2 ad2 H2 F2 Mv.refl _ (.cons (RepA.mv F1 m2 rv) rvs)
theorem tA_none {σ : L2.St} {H : Hp} {Q : List V → Hp → Prop} (h : tA (pX X) x xNil σ H Q) : Q [] H := by
  obtain ⟨c, fr, ad, F, o⟩ := h
  exact o ad H F Mv.refl [] .nil
/-- max(xs, default=d) -/
theorem ae_maxDf {n : Str} {p1 kpos : Pos} (hc : X.calm = true) (hu : X.A.units + 64 < cLine) (hg : Gl X n) (hm : X.mg n = none) (hv : bootBuiltins n = some (.builtin "max")) (ha : AE X x a f) (hd : AE X x d g)
    (hn : n ≠ "__name__" := by decide) (hdb : (n == ("__debug__" : Str)) = false := by decide)
    (he : backTo pos (starEach [a] X.env) = (false, eval a X.env) :: backTo pos (starEach [] X.env) := by rfl) (hpl : (backTo pos (starEach [a] X.env)).any (·.1) = false := by rfl)
    (hs : starEach [a] X.env = (false, eval a X.env) :: starEach [] X.env := by rfl)
    (hall : (backToKw pos (keywordEach [⟨some (Str.ofString "default"), d, kpos⟩] X.env)).all (·.1.isSome) = true := by rfl) (hnone : (backToKw pos (keywordEach [⟨some (Str.ofString "default"), d, kpos⟩] X.env)).any (·.1.isNone) = false := by rfl) (hks : (backToKw pos (keywordEach [⟨some (Str.ofString "default"), d, kpos⟩] X.env)).filterMap (·.1) = [Str.ofString "default"] := by rfl) :
    AE X x (.Call (.Name n p1) [a] [⟨some (Str.ofString "default"), d, kpos⟩] pos) (xB1 dMaxDf (xCons f (xCons g xNil))) := by
  refine (pe_callBK (cK_maxDf hc hu) hg hm hv (pa_cons ha pa_nil hs) (pk_cons hd pk_nil) hn hdb he hpl hall hnone hks).imp fun σ H Q h => ?_
  have h1 := tA_head (tA_call h)
  obtain ⟨c, fr, ad, F, o⟩ := h1
  refine ⟨c, fr, ad, F, o.mono fun av fr1 ad1 H1 F1 m1 o1 v rv => ?_⟩
  obtain ⟨c2, fr2, ad2, F2, o2⟩ := tA_head (o1 v rv)
  refine ⟨c2, fr2, ad2, F2, o2.mono fun bv fr3 ad3 H3 F3 m3 o3 u ru => ?_⟩
  exact ⟨v, u, rfl, rfl, tA_none (o3 u ru)⟩
end
/-! ### max(d.values()) -/
def dMaxV (kvs : List (PyData × PyData)) : Option PyData := match intsD (kvs.map (·.2)) with
  | some [] => none
  | some is => some (.int (maxI is))
  | none => none
theorem intsD_eq : ∀ {ds : List PyData} {is : List Int}, intsD ds = some is → ds = is.map .int
  | [], _, e => by cases e; rfl
  | .int i :: ds, is, e => by
    unfold intsD at e
    cases q : intsD ds with
    | none => rw [q] at e; cases e
    | some js => rw [q] at e; cases e; rw [intsD_eq q]; rfl
  | .none :: _, _, e => by cases e
  | .bool _ :: _, _, e => by cases e
  | .str _ :: _, _, e => by cases e
  | .list _ :: _, _, e => by cases e
  | .tuple _ :: _, _, e => by cases e
  | .dict _ :: _, _, e => by cases e
def rCV (X : Cx) (sem : List (PyData × PyData) → Option PyData) : List V → Hp → VK → Prop := fun xs H Q => ∃ (ok : Addr → Prop) (p l : Addr) (tp : Bool) (kvs : List (PyData × PyData)) (r : PyData), (∀ p, H p = none → ok p) ∧ xs = [.ref p] ∧ H p = some (L2.viewO "dict_values" p l) ∧ DctR (pX X) H ok l tp kvs ∧ sem kvs = some r ∧ ∀ v H', Grow H H' → Rep X.K H' ok v r → Q v H'
section
variable {prog : Program} {w : World} {A : Around} {E : Value → Shared → Prop} {s : Shared}
theorem values_call {l : Addr} {es : Array DictEntry} {ep : Nat} {Q : Value → Shared → Prop} (lo : (l == sysModules) = false) (rw_ : s.heap.DictRaw l es ep) (q : Q (.ref s.heap.objs.size) { s with heap := s.heap.push (DSub.viewOb "dict_values" l) }) : wpAny (model prog w) A (call (.builtin "dict.values") [.ref l]) Q E s := by
  obtain ⟨o, ho, hx, hd⟩ := id rw_
  have ty : s.TypeIs (.ref l) "dict" := ⟨o, ho, hx.1⟩
  refine call_meetsIn (S := fun A' R s' => s'.TypeIs (.ref l) "dict" ∧ R (.ok (.ret (.ref s'.heap.objs.size))) { s' with heap := s'.heap.push (DSub.viewOb "dict_values" l) }) PySem.F.slot_dict_values ty PySem.F.entry_dict_values (PySem.F.args_dict_values_1 _) (.of_wp fun A' R s' ⟨t, h⟩ => ?_) ⟨ty, q⟩
  show wpAny _ _ (Builtin.Dict.noArgs "values" ⟨[.ref l], []⟩ >>= _) _ _ s'
  unfold Builtin.Dict.noArgs
  refine wpAny_bind (wpAny_bind (wpAny_notOrdered_dict t ?_))
  refine wpAny_pure ?_
  show wpAny _ _ (Builtin.Dict.showsAll l >>= _) _ _ s'
  unfold Builtin.Dict.showsAll
  rw [if_neg (by rw [lo]; exact Bool.false_ne_true)]
  exact wpAny_bind (wpAny_pure (wpAny_bind (wpAny_newObj_type (wpAny_pure ⟨_, rfl, h⟩))))
end
section
variable {X : Cx} {x : XW} {a : Expr} {f : Fr → Res AV} {pos : Pos}
theorem c_maxV (hc : X.calm = true) : CallR X (.builtin "max") (rCV X dMaxV) := by
  intro pins s σ H xs us Q I rx ⟨ok, p, l, tp, kvs, r, hok, exs, hp, hd, e, q⟩
  subst exs
  rw [Vals.ref1 rx]
  obtain ⟨es, ep, D⟩ := dct_raw I hd
  obtain ⟨o, ho, hx, hdat⟩ := id D.raw
  have view : s.heap.get? p = some (DSub.viewOb "dict_values" l) := (show ObjOk X.prog X.w H s.heap p (L2.viewO "dict_values" p l) from I.hok p _ hp).1
  unfold dMaxV at e
  cases q1 : intsD (kvs.map (·.2)) with
  | none => rw [q1] at e; cases e
  | some is =>
    rw [q1] at e
    have hk := intsD_eq q1
    have hkl : kvs.length = is.length := by
      have z := congrArg List.length hk
      rwa [List.length_map, List.length_map] at z
    have hsz : es.size = is.length := D.len.trans hkl
    cases is with
    | nil => cases e
    | cons i0 is0 =>
      cases e
      generalize hns : i0 :: is0 = ns at *
      have hpos : 0 < ns.length := by rw [← hns]; simp
      have each : ∀ (i : Nat) (en : DictEntry), es[i]? = some en → ∃ t, en.val = .int (ns.getD i 0) t := fun i en he => by
        obtain ⟨kv, h1, _, v, _, _, h2, h3⟩ := D.at_ i en he
        have h4 : (kvs.map (·.2))[i]? = some kv.2 := by rw [List.getElem?_map, h1]; rfl
        rw [hk, List.getElem?_map] at h4
        cases q3 : ns[i]? with
        | none => rw [q3] at h4; cases h4
        | some j =>
          rw [q3] at h4
          have h5 : kv.2 = .int j := (Option.some.inj h4).symm
          rw [h5] at h3
          cases h3
          obtain ⟨t, h6⟩ := h2
          refine ⟨t, ?_⟩
          rw [h6, List.getD_eq_getElem?_getD, q3]; rfl
      refine call_max_walk (DSub.iter_vals view ho hdat ?_)
      have hlt : l < s.heap.objs.size := Heap.lt_size ho
      refine ⟨s.heap.objs.size, [s.heap.objs.size, l], [s.heap.objs.size], es.size, fun i v => ∃ t, v = .int (ns.getD i 0) t, _, fun i j => decide (ns.getD i 0 > ns.getD j 0), rfl, DSub.walksVal (a := l) (show X.A.in1.handled = none from I.ok.hd hc) (Nat.ne_of_lt hlt) hdat each, ⟨Heap.get?_push_size _ rfl, Heap.get?_push_of_some _ ho⟩, fun b hb => ?_, by omega, CmpOf.ints_gt (fun i => ns.getD i 0) (fun i v z => z), fun v h' tk hv hkeep => ?_⟩
      · show b < (s.heap.push _).objs.size
        rw [size_push']
        rcases List.mem_cons.mp hb with z | z
        · rw [z]; exact Nat.lt_succ_self _
        · rw [List.mem_singleton.mp z]; exact Nat.lt_succ_of_lt hlt
      · obtain ⟨t, rfl⟩ := hv
        obtain ⟨m1, m2⟩ := argBest_gt (fun i => ns.getD i 0) (es.size - 1)
        have old : ∀ b o, s.heap.get? b = some o → h'.get? b = some o := fun b o e => hkeep b o (fun z => by rw [List.mem_singleton.mp z] at e; exact absurd (Heap.lt_size e) (Nat.lt_irrefl _)) (Heap.get?_push_of_some _ e)
        obtain ⟨x1, x2⟩ := maxI_spec (is := ns) (fun z => by rw [z] at hpos; cases hpos)
        have top : ns.getD (argBest (fun i j => decide (ns.getD i 0 > ns.getD j 0)) (es.size - 1)) 0 = maxI ns := by
          refine Int.le_antisymm (x2 _ (PySem.getD_mem (by omega))) ?_
          obtain ⟨j, hj, e⟩ := List.mem_iff_getElem.mp x1
          have z := m2 j (by omega)
          have e3 : ns.getD j 0 = maxI ns := by rw [List.getD_eq_getElem?_getD, List.getElem?_eq_getElem hj, ← e]; rfl
          rw [← e3]
          exact z
        rw [top]
        exact ⟨.int _, H, I.kept (t' := tk) old, ⟨_, rfl⟩, q _ H Grow.refl (.int _)⟩
def tVals (X : Cx) (td : TE) : TE := fun σ H Q => td σ H fun v H1 => ∃ (ok : Addr → Prop) (l : Addr) (tp : Bool) (kvs : List (PyData × PyData)), v = .ref l ∧ DctR (pX X) H1 ok l tp kvs ∧ ∀ p, H1 p = none → Q (.ref p) (upd H1 p (L2.viewO "dict_values" p l))
theorem pe_vals {td : TE} {p1 : Pos} (ho : PE X a td) (hbase : attributeBase a "values" X.env (eval a X.env) = eval a X.env := by rfl) (hline : (p1.endLine == pos.line) = true := by rfl) : PE X (.Call (.Attribute a "values" p1) [] [] pos) (tVals X td) := by
  refine ⟨fun pins s σ H Q I h => ?_⟩
  refine wpAny_Call_method0_late hbase hline (thn (ho.run pins s σ H _ I h) fun v s1 ⟨y, H1, I1, r1, ok, l, tp, kvs, e, hd, q⟩ => ?_)
  subst e
  cases r1
  refine ⟨"dict", "dict.values", PySem.F.plainAttrs_dict, PySem.F.slot_dict_values, PySem.F.type_dict_values, dct_ty I1 hd, fun b0 e0 => by cases e0; exact dct_nod I1 hd, Calls.callWith_builtin rfl (PySem.evalArgs_none ?_)⟩
  obtain ⟨es, ep, D⟩ := dct_raw I1 hd
  exact values_call (es := es) (ep := ep) D.lo D.raw ⟨.ref s1.heap.objs.size, upd H1 s1.heap.objs.size (L2.viewO "dict_values" s1.heap.objs.size l), I1.laid (t' := s1.toks) (fun b u e => Heap.get?_push_of_some _ e) (Nat.le_refl _) (viewO_ok (Heap.get?_push_size _ rfl)), rfl, q _ (I1.hok.fresh (Nat.le_refl _))⟩
theorem tA_DV {sem : List (PyData × PyData) → Option PyData} {σ : L2.St} {H : Hp} {Q : VK} (hh : tE (pX X) x (xD1 sem f) σ H Q) : tCons (tVals X (tE (pX X) x f)) tNil σ H fun vs H1 => rCV X sem vs H1 Q := by
  obtain ⟨c, fr, ad, F, o⟩ := hh
  refine ⟨c, fr, ad, F, (Out.bind F o).mono fun av fr1 ad1 H1 F1 m1 o1 v rv => ?_⟩
  cases q1 : fr1.dview av with
  | none => rw [q1] at o1; exact o1.elim
  | some z =>
    obtain ⟨tp, kvs⟩ := z
    rw [q1] at o1
    simp only [ofO] at o1
    cases q3 : sem kvs with
    | none => rw [q3] at o1; exact o1.elim
    | some r =>
      rw [q3] at o1
      obtain ⟨l, rfl, dd⟩ := dview_rep F1 rv q1
      refine ⟨okP c ad1, l, tp, kvs, rfl, dd, fun p hp => ?_⟩
      have gr : Grow H1 (upd H1 p (L2.viewO "dict_values" p l)) := Grow.new hp
      exact ⟨okP c ad1, p, l, tp, kvs, r, fun b hb => okP_new (F1.grow gr) hb, rfl, upd_same, dd.keep gr.keep (fun o e => gr _ o e), q3, fun w H3 g3 rw_ => o1 ad1 H3 ((F1.grow gr).grow g3) (Mv.grow fun b o e => g3 b o (gr b o e)) w rw_⟩
/-- max(d.values()) -/
theorem ae_callBV {id : String} {n : Str} {sem : List (PyData × PyData) → Option PyData} {p1 p2 p3 : Pos} (hc : CallR X (.builtin id) (rCV X sem)) (hg : Gl X n) (hm : X.mg n = none) (hv : bootBuiltins n = some (.builtin id)) (ha : AE X x a f)
    (hbase : attributeBase a "values" X.env (eval a X.env) = eval a X.env := by rfl) (hline : (p2.endLine == p3.line) = true := by rfl)
    (hn : n ≠ "__name__" := by decide) (hdb : (n == ("__debug__" : Str)) = false := by decide) (he : starEach [.Call (.Attribute a "values" p2) [] [] p3] X.env = (false, eval (.Call (.Attribute a "values" p2) [] [] p3) X.env) :: starEach [] X.env := by rfl) (hpl : (backTo pos (starEach [] X.env)).any (·.1) = false := by rfl) :
    AE X x (.Call (.Name n p1) [.Call (.Attribute a "values" p2) [] [] p3] [] pos) (xD1 sem f) :=
  (pe_callB hc hg hm hv (pa_cons (pe_vals ha hbase hline) pa_nil he) hn hdb he hpl).imp fun _ _ _ h => tA_DV h
end
end G
/-! HD: a list of one's own made longer by a new one. -/
namespace G
open PySem PySem.Spec PyProof.Rows L2
/-- name += a new list -/
@[simp] def sExt (i : Nat) (f : Fr → Res AV) : Fr → SRes := fun fr => match fr.vars[i]? with
  | some (some (.cel k)) => (match fr.cells[k]? with
    | some (.lst _) => (f fr).toS fun a fr1 => (match a with
      | .cel j => (match fr1.cells[k]?, fr1.cells[j]? with
        | some (.lst xs), some (.lst zs) => if xs.length + zs.length ≤ 1000000 then .nx (((fr1.putc k (.lst (xs ++ zs))).setv i (some (.cel k))).gc) else .err
        | _, _ => .err)
      | _ => .err)
    | _ => .err)
  | _ => .err
section
variable {X : Cx} {x : XW} {a : Expr} {f : Fr → Res AV} {pos : Pos}
theorem as_ext {i : Nat} {n : Str} {p1 : Pos} (hN : X.N.Nodup) (hi : X.N[i]? = some n) (hx : Loc X.env.scope n) (ha : AE X x a f)
    (hf : X.fn n = true ∨ X.env.scope.names.lookup n = some .local := by first | exact .inl rfl | exact .inr rfl | assumption) : AS X x (.AugAssign (.Name n p1) .Add a pos) (sExt i f) := by
  have hp : PIp X .Add rExt2 := fun pins s σ H xv yv v u Q I r1 r2 h => iop_ext pins s σ H xv yv v u Q I r1 r2 h
  refine (ps_aug hN hi hx ha hp hf).imp fun D σ H ⟨c, fr, ad, F, o⟩ => ?_
  unfold sExt at o
  cases q : fr.vars[i]? with
  | none => rw [q] at o; exact o.elim
  | some w =>
    rw [q] at o
    cases w with
    | none => exact o.elim
    | some av =>
      obtain ⟨v, h1, h2⟩ := F.var i av q
      cases av with
      | cel k =>
        obtain ⟨l, rfl, hl⟩ := h2
        simp only at o
        cases qc : fr.cells[k]? with
        | none => rw [qc] at o; exact o.elim
        | some cl =>
          rw [qc] at o
          cases cl with
          | lst ds =>
            simp only at o
            refine ⟨_, h1, c, fr, ad, F, (SOut.of F o).mono fun av2 fr1 ad1 H1 F1 m1 o1 w2 rw_ => ?_⟩
            cases av2 with
            | cel j =>
              obtain ⟨b, rfl, hb⟩ := rw_
              simp only at o1
              have e3 := m1.pre k _ hl
              cases q2 : fr1.cells[k]? with
              | none => rw [q2] at o1; exact o1.elim
              | some c1 =>
                cases q3 : fr1.cells[j]? with
                | none => rw [q2, q3] at o1; cases c1 <;> exact o1.elim
                | some c2 =>
                  rw [q2, q3] at o1
                  cases c1 with
                  | lst xs =>
                    cases c2 with
                    | lst zs =>
                      simp only at o1
                      split at o1
                      · rename_i hz
                        obtain ⟨vs, g1, g2, g3⟩ := cell_lst F1 e3 q2
                        obtain ⟨us, g4, g5, g6⟩ := cell_lst F1 hb q3
                        have hz2 : vs.length + us.length ≤ sizeLine := by rw [g3.length, g6.length, sizeLine_eq]; omega
                        refine ⟨l, b, vs, us, rfl, rfl, g1, g4, hz2, ?_⟩
                        have kk : Keep H1 (upd H1 l (.lst (vs ++ us))) (okP c ad1) (okP c ad1) := wr_k (List.mem_of_getElem? e3) g1
                        have F2 := F1.putc e3 (wr_t (o := .lst (vs ++ us)) g1) (cl := .lst (xs ++ zs)) ⟨vs ++ us, upd_same, by rw [List.length_append, sizeLine_eq]; omega, RepL.append (g3.keep kk) (g6.keep kk)⟩
                        have F3 := F2.setv (i := i) (v := .ref l) (a := .cel k) ⟨l, rfl, e3⟩
                        obtain ⟨ad4, F4⟩ := F3.gc
                        exact o1 ad4 _ _ F4
                      · exact o1.elim
                    | _ => exact o1.elim
                  | _ => cases c2 <;> exact o1.elim
            | _ => exact o1.elim
          | _ => exact o.elim
      | _ => exact o.elim
end
end G
/-! HE: sets of flat tuples (of ints, texts): what a search in them says, adding. -/
namespace G
open PySem PySem.Spec PyProof.Rows L2

/-! ### flat tuples -/
def leafK : NestedKey → Bool
  | .tup _ => false
  | _ => true
def flatK : NestedKey → Bool
  | .tup ks => ks.all leafK
  | _ => false
def FlatAt (h : Heap) (k : NestedKey) (b : Addr) : Prop := NestedIs h k (.ref b) ∧ flatK k = true
def noRefV (v : Value) : Prop := ∀ a, v ≠ .ref a
theorem leaf_depth : ∀ {ks : List NestedKey}, ks.all leafK = true → NestedKey.depthAll ks = 0
  | [], _ => rfl
  | .none :: ks, h | .num _ :: ks, h | .text _ :: ks, h => by
    have h2 : ks.all leafK = true := by simpa [leafK] using h
    simp [NestedKey.depthAll, NestedKey.depth, leaf_depth h2]
  | .tup _ :: ks, h => by simp [leafK] at h
theorem flat_depth {k : NestedKey} (h : flatK k = true) : k.depth ≤ 8 := by
  cases k with
  | tup ks => simp only [NestedKey.depth, leaf_depth (show ks.all leafK = true from h)]; omega
  | _ => simp [NestedKey.depth]
theorem leaf_noref {h : Heap} : ∀ {ks : List NestedKey} {vs : List Value}, NestedAll h ks vs → ks.all leafK = true → ∀ v ∈ vs, noRefV v
  | _, _, .nil, _ => fun v hv => nomatch hv
  | k :: ks, _, .cons (v := v) (vs := vs) q qs, hl => fun u hu => by
    rw [List.all_cons, Bool.and_eq_true] at hl
    rcases List.mem_cons.mp hu with e | hu
    · subst e
      intro a e
      subst e
      cases q with
      | tup _ _ _ _ => cases hl.1
    · exact leaf_noref qs hl.2 u hu
theorem FlatAt.obj {h : Heap} {k : NestedKey} {b : Addr} (x : FlatAt h k b) : ∃ o vs n, h.get? b = some o ∧ o.cls = .type "tuple" ∧ o.data = .seq vs n ∧ ∀ v ∈ vs.toList, noRefV v := by
  obtain ⟨q, f⟩ := x
  cases q with
  | tup e1 e2 e3 e4 => exact ⟨_, _, _, e1, e2, e3, leaf_noref e4 f⟩
theorem FlatAt.keep {h h' : Heap} {k : NestedKey} {b : Addr} (x : FlatAt h k b) (hk : ∀ c o, h.get? c = some o → h'.get? c = some o) : FlatAt h' k b := ⟨x.1.at fun _ _ _ _ e _ => hk _ _ e, x.2⟩
/-- a set is no tuple: tuples stand where it is written -/
theorem FlatAt.but {h h' : Heap} {k : NestedKey} {b a : Addr} {o : Obj} {es : Array (Int × Value)} {ep : Nat} {t : SetTable} (x : FlatAt h k b) (e : h.get? a = some o) (d : o.data = .set es ep t) (hs : Heap.SameBut a h h') : FlatAt h' k b :=
  ⟨x.1.at fun c u vs n eu du => (hs.2 c fun z => by subst z; rw [e] at eu; cases eu; rw [d] at du; cases du).trans eu, x.2⟩
section
variable {P : Program} {w : World} {A : Around} {X : Value → Shared → Prop} {s : Shared}
theorem FlatAt.kind {h : Heap} {k : NestedKey} {b : Addr} (x : FlatAt h k b) : (nestedKind P w).is h k b := ⟨x.1, flat_depth x.2⟩
theorem cls_leaf (n : Nat) {v : Value} (hv : noRefV v) : ofAClassStatement n v = pure false := by
  cases v with
  | ref a => exact absurd rfl (hv a)
  | _ => cases n <;> rfl
theorem byv_leaf {h : Heap} {k : NestedKey} {v : Value} (q : NestedIs h k v) (hl : leafK k = true) (n : Nat) : ∃ b, hashByValue n v = pure b := by
  cases q with
  | none => exact ⟨_, by cases n <;> rfl⟩
  | bool _ => exact ⟨_, by cases n <;> rfl⟩
  | int _ _ => exact ⟨_, by cases n <;> rfl⟩
  | text _ _ => exact ⟨_, by cases n <;> rfl⟩
  | tup _ _ _ _ => cases hl
theorem byv_leaves {h : Heap} : ∀ {ks : List NestedKey} {vs : List Value}, NestedAll h ks vs → ks.all leafK = true → ∀ v ∈ vs, ∀ n, ∃ b, hashByValue n v = pure b
  | _, _, .nil, _ => fun v hv => nomatch hv
  | k :: ks, _, .cons q qs, hl => fun u hu n => by
    rw [List.all_cons, Bool.and_eq_true] at hl
    rcases List.mem_cons.mp hu with e | hu
    · subst e; exact byv_leaf q hl.1 n
    · exact byv_leaves qs hl.2 u hu n
/-- of no class statement -/
theorem cls_flat {k : NestedKey} {b : Addr} {Q : Bool → Shared → Prop} (x : FlatAt s.heap k b) (q : Q false s) : wpAny (model P w) A (ofAClassStatement 8 (.ref b)) Q X s := by
  obtain ⟨o, vs, n, e, ec, ed, hv⟩ := x.obj
  unfold ofAClassStatement
  refine wpAny_bind (wpAny_typeOf (T := "tuple") ⟨o, e, ec⟩ ?_)
  dsimp only
  have ht : (("tuple" : String) == "tuple") = true := by decide
  simp only [ht, if_true, Bool.not_true, Bool.false_eq_true, if_false]
  refine wpAny_bind (wpAny_pure ?_)
  simp only [Bool.not_true, Bool.false_eq_true, if_false]
  refine wpAny_bind (wpAny_seqItems e ed ?_)
  dsimp only
  refine wpAny_bind ?_
  show wpAny _ _ (forIn vs _ _) _ _ s
  rw [← Array.forIn_toList]
  refine wpAny_forIn_list _ (fun us r s' => r.1 = none ∧ s' = s ∧ ∀ v ∈ us, noRefV v) _ (fun v us r s' z => ?_) (fun r s' z => ?_) _ _ ⟨rfl, rfl, hv⟩
  · obtain ⟨z1, z2, z3⟩ := z
    subst z2
    rw [cls_leaf 7 (z3 v List.mem_cons_self)]
    refine wpAny_bind (wpAny_pure ?_)
    simp only [Bool.false_eq_true, if_false]
    exact wpAny_pure ⟨rfl, rfl, fun u hu => z3 u (List.mem_cons_of_mem _ hu)⟩
  · obtain ⟨r1, r2⟩ := r
    obtain ⟨z1, z2, _⟩ := z
    simp only at z1
    subst z1; subst z2
    exact wpAny_pure q
theorem byv_flat {k : NestedKey} {b : Addr} {Q : Bool → Shared → Prop} (x : FlatAt s.heap k b) (q : ∀ r, Q r s) : wpAny (model P w) A (hashByValue 8 (.ref b)) Q X s := by
  obtain ⟨q0, f⟩ := x
  cases q0 with
  | @tup _ o vs n ks e ec ed en =>
    have hv := byv_leaves en f
    unfold hashByValue
    refine wpAny_bind (wpAny_specialOf (T := "tuple") ⟨o, e, ec⟩ F.slot_tuple_hash.lookup ?_)
    show wpAny _ _ (seqItems? (.ref b) >>= _) _ _ s
    refine wpAny_bind (wpAny_seqItems e ed ?_)
    refine wpAny_bind ?_
    show wpAny _ _ (forIn vs _ _) _ _ s
    rw [← Array.forIn_toList]
    refine wpAny_forIn_list _ (fun us r s' => r.1 = none ∧ s' = s ∧ ∀ v ∈ us, ∀ n, ∃ b, hashByValue n v = pure b) _ (fun v us r s' z => ?_) (fun r s' z => ?_) _ _ ⟨rfl, rfl, hv⟩
    · obtain ⟨z1, z2, z3⟩ := z
      subst z2
      obtain ⟨bb, eb⟩ := z3 v List.mem_cons_self 7
      rw [eb]
      refine wpAny_bind (wpAny_pure ?_)
      cases bb
      · simp only [Bool.not_false, if_true]
        exact wpAny_pure (wpAny_pure (q false))
      · simp only [Bool.not_true, Bool.false_eq_true, if_false]
        exact wpAny_pure ⟨rfl, rfl, fun u hu => z3 u (List.mem_cons_of_mem _ hu)⟩
    · obtain ⟨r1, r2⟩ := r
      obtain ⟨z1, z2, _⟩ := z
      simp only at z1
      subst z1; subst z2
      exact wpAny_pure (q true)
/-- a search among flat tuples shows nothing -/
theorem unseen {k : NestedKey} {b : Addr} {Q : Bool → Shared → Prop} (x : FlatAt s.heap k b) {ys : List Value} (hy : ∀ y ∈ ys, ∃ k' c, y = .ref c ∧ FlatAt s.heap k' c) (q : Q false s) : wpAny (model P w) A (searchCouldBeSeen (.ref b) ys) Q X s := by
  unfold searchCouldBeSeen
  refine wpAny_bind ?_
  refine wpAny_forIn_list _ (fun us r s' => r.1 = none ∧ s' = s ∧ ∀ y ∈ us, ∃ k' c, y = Value.ref c ∧ FlatAt s.heap k' c) _ (fun v us r s' z => ?_) (fun r s' z => ?_) _ _ ⟨rfl, rfl, hy⟩
  · obtain ⟨z1, z2, z3⟩ := z
    subst z2
    obtain ⟨k2, c, e, xc⟩ := z3 v List.mem_cons_self
    subst e
    have on : ∀ y ∈ us, ∃ k' c, y = Value.ref c ∧ FlatAt s'.heap k' c := fun u hu => z3 u (List.mem_cons_of_mem _ hu)
    dsimp only
    by_cases hv : (b == c || (carriedByValue (.ref b) && carriedByValue (.ref c))) = true
    · exact wp_if_pos hv (wpAny_pure ⟨rfl, rfl, on⟩)
    · refine wp_if_neg hv (wpAny_bind ((nestedKind P w).quiet x.kind ?_))
      simp only [Bool.not_true, Bool.false_eq_true, if_false]
      refine wpAny_bind ((nestedKind P w).quiet xc.kind ?_)
      simp only [Bool.not_true, Bool.false_eq_true, if_false]
      refine wpAny_bind (cls_flat x ?_)
      simp only [Bool.false_eq_true, if_false]
      refine wpAny_bind (cls_flat xc ?_)
      simp only [Bool.false_eq_true, if_false]
      exact wpAny_pure ⟨rfl, rfl, on⟩
  · obtain ⟨r1, r2⟩ := r
    obtain ⟨z1, z2, _⟩ := z
    simp only at z1
    subst z1; subst z2
    exact wpAny_pure q
end
end G
/-! HF: sets of flat tuples: one put in. -/
namespace G
open PySem PySem.Spec PyProof.Rows L2
section
variable {P : Program} {w : World} {A : Around} {X : Value → Shared → Prop} {s : Shared}
abbrev KA := Addr × NestedKey
def entR (w : World) (q : KA) : Int × Value := (q.2.hash w, .ref q.1)
abbrev hsh (w : World) (q : KA) : Int := q.2.hash w
structure FSet (w : World) (h : Heap) (a : Addr) (L : List KA) (es : Array (Int × Value)) (ep : Nat) (t : SetTable) : Prop where
  obj : ∃ o, h.get? a = some o ∧ o.ExactSet ∧ o.data = .set es ep t
  ents : es.toList = L.map (entR w)
  tb : TabOk t (L.map (hsh w))
  dis : (L.map (·.2)).Nodup
  flat : ∀ q ∈ L, FlatAt h q.2 q.1
  ldd : w.params.followText "set-order" = true ∨ t.led = true
  rm : L.length * 5 < t.mask * 3
  lt : L.length < 64
variable {a : Addr} {L : List KA} {es : Array (Int × Value)} {ep : Nat} {t : SetTable}
theorem ents_size {L : List KA} (e : es.toList = L.map (entR w)) : es.size = L.length := by
  rw [← Array.length_toList, e, List.length_map]
theorem ents_at {L : List KA} (e : es.toList = L.map (entR w)) {i : Nat} {q : KA} (hq : L[i]? = some q) : es[i]? = some (entR w q) := by
  rw [← Array.getElem?_toList, e, List.getElem?_map, hq]; rfl
theorem fits_of {L : List KA} (e : es.toList = L.map (entR w)) (hp : t.place.size = L.length) (hd : t.dummies = #[]) (hl : L.length ≤ t.mask) : t.fits es.size = true := by
  have e2 := ents_size e
  unfold SetTable.fits SetTable.fill
  rw [hd, Bool.and_eq_true, beq_iff_eq, decide_eq_true_eq, e2, hp]
  exact ⟨rfl, by show L.length + 0 ≤ t.mask; omega⟩
theorem FSet.psz {h : Heap} (R : FSet w h a L es ep t) : t.place.size = L.length := by
  have z := R.tb.sz
  rwa [List.length_map] at z
theorem FSet.fit {h : Heap} (R : FSet w h a L es ep t) : t.fits es.size = true := fits_of R.ents R.psz R.tb.dm (by have := R.rm; omega)
theorem nth_dummy {m : Nat} : ∀ (n : Nat) (p : SetTable.Probe), p.dummy = none → (nth m p n).dummy = none
  | 0, _, h => h
  | n + 1, p, h => nth_dummy n (adv m p) (by unfold adv; split <;> exact h)
/-- the first step of the way by the hash -/
abbrev way0 (m : Nat) (g : Int) : SetTable.Probe := runAt m (SetTable.bits g % (m + 1)) (SetTable.bits g)
theorem seek (R : FSet w s.heap a L es ep t) {b : Addr} {k : NestedKey} (hb : FlatAt s.heap k b) (hu : A.units + 8 < cLine) {K : Nat} (hlt : K < 10 * SetTable.turns t.mask)
    (hfree : way t.mask (k.hash w) K ∉ t.place.toList) (hocc : ∀ c, c < K → way t.mask (k.hash w) c ∈ t.place.toList) {Q : SetFound → Shared → Prop}
    (yes : k ∈ L.map (·.2) → Q (.there none) s) (no : k ∉ L.map (·.2) → Q (.free (way t.mask (k.hash w) K) false) s) :
    ∀ (f c : Nat) (st : Option SetTable.Probe), st.getD (t.probeStart (k.hash w)) = nth t.mask (way0 t.mask (k.hash w)) c → c ≤ K → K - c < f →
      (∀ (i : Nat) q, L[i]? = some q → q.2 = k → ∃ d, c ≤ d ∧ d < K ∧ t.place.toList[i]? = some (way t.mask (k.hash w) d)) →
      wpAny (model P w) A (setSearchFrom a (.ref b) (k.hash w) true f st) Q X s := by
  intro f
  induction f with
  | zero => intro c st _ _ h; exact absurd h (Nat.not_lt_zero _)
  | succ f ih =>
    intro c st hst hcK hcf hmet
    obtain ⟨o, ho, hx, hd⟩ := R.obj
    obtain ⟨G, hG⟩ : ∃ G : Int, G = k.hash w := ⟨_, rfl⟩
    have gw : ¬ t.gaveWay = true := by unfold SetTable.gaveWay; rw [mask_odd R.tb.mok]; decide
    have shift : ∀ q, nth t.mask (nth t.mask (way0 t.mask (k.hash w)) c) q = nth t.mask (way0 t.mask (k.hash w)) (c + q) := fun q => (nth_add t.mask c _ q).symm
    have shiftj : ∀ q, (nth t.mask (nth t.mask (way0 t.mask (k.hash w)) c) q).j = way t.mask (k.hash w) (c + q) := fun q => by rw [shift]
    have hat : ∀ (i : Nat) q, L[i]? = some q → (fun i => (es[i]?.map (·.1)).getD 0) i = q.2.hash w := fun i q hq => by
      show (es[i]?.map (·.1)).getD 0 = _
      rw [ents_at R.ents hq]; rfl
    rw [setSearchFrom_succ]
    refine wpAny_bind (wpAny_setState_of ho hd R.fit ?_)
    dsimp only
    refine wp_if_neg gw ?_
    try refine wpAny_bind (wpAny_pure ?_)
    rcases go_spec t R.tb.ris R.tb.dm (fun i => (es[i]?.map (·.1)).getD 0) (k.hash w) (10 * SetTable.turns t.mask) (K - c) _ (nth_dummy c (way0 t.mask (k.hash w)) rfl) (by omega)
      (fun q hq => by rw [shiftj]; exact hocc (c + q) (by omega)) (by rw [shiftj, show c + (K - c) = K by omega]; exact hfree) with ⟨q, i, hq, hi, hhit, hmiss, hgo⟩ | ⟨hmiss, hgo⟩
    · have hpr : t.probe (fun i => (es[i]?.map (·.1)).getD 0) (k.hash w) (st.getD (t.probeStart (k.hash w))) = some (.candidate (way t.mask (k.hash w) (c + q)) i (nth t.mask (way0 t.mask (k.hash w)) (c + (q + 1)))) := by
        rw [hst, ← shiftj, ← shift]; exact hgo
      rw [hpr]
      dsimp only
      rw [shiftj] at hi
      have hil : i < L.length := by
        have z := (List.getElem?_eq_some_iff.mp hi).1
        rw [Array.length_toList, R.psz] at z
        exact z
      obtain ⟨e0, he0⟩ : ∃ e0, L[i]? = some e0 := ⟨_, List.getElem?_eq_getElem hil⟩
      have me := List.mem_of_getElem? he0
      have main : wpAny (model P w) A (searchRest a (.ref b) (k.hash w) true f es t (way t.mask (k.hash w) (c + q)) i (nth t.mask (way0 t.mask (k.hash w)) (c + (q + 1)))) Q X s := by
        unfold searchRest
        rw [ents_at R.ents he0]
        dsimp only [entR]
        refine wpAny_bind (wpAny_holding ((nestedKind P w).eqBool hu (R.flat e0 me).kind hb.kind ?_))
        refine wpAny_bind (wpAny_setState_of ho hd R.fit ?_)
        dsimp only
        by_cases same : e0.2 = k
        · refine wp_if_pos (by simp [same]) (wpAny_pure (yes ?_))
          exact List.mem_map.mpr ⟨e0, me, same⟩
        · refine wp_if_neg (by simp [same]) ?_
          try refine wpAny_bind (wpAny_pure ?_)
          rw [sameMem]
          dsimp only
          have live : t.slot (way t.mask (k.hash w) (c + q)) = .live i := slot_live R.tb.ris hi
          simp only [if_true, live, ents_at R.ents he0, entR]
          refine wpAny_bind (wpAny_isSame_ref_self (wpAny_bind (wpAny_pure ?_)))
          simp only [if_true]
          refine wp_if_neg (by simp [same]) ?_
          refine ih (c + (q + 1)) _ rfl (by omega) (by omega) fun i2 q2 h2 e2 => ?_
          obtain ⟨d, d1, d2, d3⟩ := hmet i2 q2 h2 e2
          refine ⟨d, ?_, d2, d3⟩
          rcases Nat.lt_trichotomy d (c + q) with z | z | z
          · refine absurd ((hat i2 q2 h2).trans (by rw [e2])) (hmiss (d - c) i2 (by omega) ?_)
            rw [shiftj, show c + (d - c) = d by omega]; exact d3
          · subst z
            have l2 := slot_live R.tb.ris d3
            rw [live] at l2
            injection l2 with l2
            subst l2
            rw [he0] at h2
            exact absurd (by cases h2; exact e2) same
          · omega
      by_cases led : t.led = true
      · refine wp_if_neg (by simp [led]) ?_
        try refine wpAny_bind (wpAny_pure ?_)
        exact main
      · refine wp_if_pos (by simp [led]) (wpAny_bind (unseen hb (fun y hy => ?_) ?_))
        · obtain ⟨e, he, ee⟩ := List.mem_map.mp hy
          have h1 : e ∈ es ∧ e.1 = k.hash w := by simpa using he
          have h2 : e ∈ L.map (entR w) := by rw [← R.ents]; simpa using h1.1
          obtain ⟨q2, h3, h4⟩ := List.mem_map.mp h2
          exact ⟨q2.2, q2.1, by rw [← ee, ← h4]; rfl, R.flat q2 h3⟩
        · refine wp_if_neg (by decide) ?_
          try refine wpAny_bind (wpAny_pure ?_)
          exact main
    · have hpr : t.probe (fun i => (es[i]?.map (·.1)).getD 0) (k.hash w) (st.getD (t.probeStart (k.hash w))) = some (.empty (way t.mask (k.hash w) K) none) := by
        have z := shiftj (K - c)
        rw [show c + (K - c) = K by omega] at z
        rw [hst, ← z]; exact hgo
      rw [hpr]
      dsimp only
      refine wpAny_pure (no fun hm => ?_)
      obtain ⟨q2, h2, e2⟩ := List.mem_map.mp hm
      obtain ⟨i2, hi2, e3⟩ := List.getElem_of_mem h2
      have h3 : L[i2]? = some q2 := by rw [List.getElem?_eq_getElem hi2, e3]
      obtain ⟨d, d1, d2, d3⟩ := hmet i2 q2 h3 e2
      refine hmiss (d - c) i2 (by omega) ?_ ((hat i2 q2 h3).trans (by rw [e2]))
      rw [shiftj, show c + (d - c) = d by omega]; exact d3
theorem seek0 (R : FSet w s.heap a L es ep t) {b : Addr} {k : NestedKey} (hb : FlatAt s.heap k b) (hu : A.units + 8 < cLine) {Q : SetFound → Shared → Prop} (yes : k ∈ L.map (·.2) → Q (.there none) s)
    (no : ∀ K, k ∉ L.map (·.2) → way t.mask (k.hash w) K ∉ t.place.toList → (∀ c, c < K → way t.mask (k.hash w) c ∈ t.place.toList) → Q (.free (way t.mask (k.hash w) K) false) s) :
    wpAny (model P w) A (setSearch a (.ref b) (k.hash w) true) Q X s := by
  have hrm := R.rm
  obtain ⟨K, k1, k2, k3⟩ := R.tb.first (by rw [List.length_map]; omega) (k.hash w)
  have kb : K < 100000 := by
    have z : 10 * SetTable.turns t.mask ≤ 1420 := by
      unfold SetTable.turns
      rcases R.tb.mok with e | e | e <;> omega
    omega
  unfold setSearch
  refine seek R hb hu k1 k2 k3 yes (fun hn => no K hn k2 k3) 100000 0 none rfl (Nat.zero_le _) (by omega) fun i q hq e => ?_
  have h1 : (L.map (hsh w))[i]? = some (k.hash w) := by rw [List.getElem?_map, hq, ← e]; rfl
  have h2 : i < t.place.toList.length := by
    rw [Array.length_toList, R.psz]
    exact (List.getElem?_eq_some_iff.mp hq).1
  have h3 := List.getElem?_eq_getElem h2
  obtain ⟨d, d1, d2⟩ := R.tb.before k2 h1 h3
  exact ⟨d, Nat.zero_le _, d1, by rw [h3, d2]⟩
/-- the rows in another order -/
theorem ents_order (L : List KA) (order : Array Nat) (e : es.toList = L.map (entR w)) (hp : order.toList.Perm (List.range L.length)) :
    ∃ Lb : List KA, (order.filterMap (es[·]?)).toList = Lb.map (entR w) ∧ Lb.Perm L ∧ Lb.map (hsh w) = order.toList.map fun i => (es.map (·.1)).getD i 0 := by
  have sz := ents_size e
  have key : ∀ l : List Nat, (∀ i ∈ l, i < L.length) → l.filterMap (fun i => es[i]?) = (l.filterMap fun i => L[i]?).map (entR w) ∧ (l.filterMap fun i => L[i]?).map (hsh w) = l.map fun i => (es.map (·.1)).getD i 0 := by
    intro l
    induction l with
    | nil => intro _; exact ⟨rfl, rfl⟩
    | cons i l ih =>
      intro hl
      have hi := hl i List.mem_cons_self
      obtain ⟨h1, h2⟩ := ih fun j hj => hl j (List.mem_cons_of_mem _ hj)
      have hq := List.getElem?_eq_getElem hi
      have he := ents_at e hq
      have hg : (es.map (·.1)).getD i 0 = hsh w L[i] := by
        have z : (es.map (·.1))[i]? = some (hsh w L[i]) := by rw [Array.getElem?_map, he]; rfl
        simp [Array.getD_eq_getD_getElem?, z]
      exact ⟨by rw [List.filterMap_cons_some he, List.filterMap_cons_some hq, List.map_cons, h1], by rw [List.filterMap_cons_some hq, List.map_cons, List.map_cons, h2, hg]⟩
  obtain ⟨h1, h2⟩ := key order.toList fun i hi => List.mem_range.mp (hp.mem_iff.mp hi)
  refine ⟨_, by first | (rw [Array.toList_filterMap]; exact h1) | simpa using h1, ?_, h2⟩
  have full : ∀ n, n ≤ L.length → (List.range n).filterMap (fun i => L[i]?) = L.take n := by
    intro n
    induction n with
    | zero => intro _; rfl
    | succ n ih =>
      intro hn
      rw [List.range_succ, List.filterMap_append, ih (by omega), List.take_succ, List.filterMap_cons_some (List.getElem?_eq_getElem hn), List.getElem?_eq_getElem hn]; rfl
  have z := hp.filterMap fun i => L[i]?
  rwa [full L.length (Nat.le_refl _), List.take_length] at z
theorem relay {o : Obj} (ho : s.heap.get? a = some o) (hx : o.ExactSet) (hd : o.data = .set es ep t) (he : es.toList = L.map (entR w)) (hp : t.place.size = L.length) (hdm : t.dummies = #[]) (hl : L.length ≤ t.mask)
    (dis : (L.map (·.2)).Nodup) (flat : ∀ q ∈ L, FlatAt s.heap q.2 q.1) (ldd : w.params.followText "set-order" = true ∨ t.led = true) (lt : L.length < 64) {n M : Nat}
    (hn : SetTable.sizeAbove n - 1 = M) (hM : MaskOk M) (hn2 : SetTable.sizeAbove n ≤ 128) (hr : L.length * 5 < M * 3) {Q : Unit → Shared → Prop}
    (q : ∀ h' L' es' ep' t', Heap.SameBut a s.heap h' → FSet w h' a L' es' ep' t' → L'.Perm L → Q () { s with heap := h' }) : wpAny (model P w) A (setRelay a n) Q X s := by
  have sz := ents_size he
  obtain ⟨t2, ord, r1, r2, r3, r4, r5, r6, r7⟩ := relaid_ok t (hs := es.map (·.1)) (wanted := n) hn hM (by rw [Array.size_map, sz]; omega)
  rw [Array.size_map, sz] at r2
  obtain ⟨Lb, o1, o2, o3⟩ := ents_order L ord he r2
  have sz2 : (ord.filterMap (es[·]?)).size = es.size := by rw [ents_size o1, o2.length_eq, sz]
  rw [setRelay_eq]
  refine wpAny_bind (wpAny_setState_of ho hd (fits_of he hp hdm hl) ?_)
  dsimp only
  refine wp_if_neg (by rw [sizeLine_eq]; omega) ?_
  try refine wpAny_bind (wpAny_pure ?_)
  rw [r1]
  dsimp only
  refine wpAny_bind (wp_if_neg (by rw [sz2]; simp) ?_)
  try refine wpAny_bind (wpAny_pure ?_)
  refine wpAny_pure ?_
  dsimp only
  refine wpAny_storeSet_of ho hd ?_ (by rw [sz2, sz, sizeLine_eq]; omega)
  have sb : Heap.SameBut a s.heap (s.heap.update a (Obj.putSet (ord.filterMap (es[·]?)) t2)) := Heap.SameBut.update ..
  refine q _ Lb _ (ep + 1) t2 sb ⟨⟨_, store_at ho hd, hx, rfl⟩, o1, by rw [o3]; exact r3, (o2.map (·.2)).nodup_iff.mpr dis, fun x hx2 => (flat x (o2.mem_iff.mp hx2)).but ho hd sb, by rw [r5]; exact ldd, ?_, by rw [o2.length_eq]; exact lt⟩ o2
  rw [o2.length_eq, r4]; exact hr
theorem addOne (R : FSet w s.heap a L es ep t) {b : Addr} {k : NestedKey} (hb : FlatAt s.heap k b) (hu : A.units + 8 < cLine) (hlt : L.length + 1 < 64) {Q : Bool → Shared → Prop}
    (q : ∀ r h' L' es' ep' t', Heap.SameBut a s.heap h' → FSet w h' a L' es' ep' t' → (k ∈ L.map (·.2) → L' = L) → (k ∉ L.map (·.2) → L'.Perm ((b, k) :: L)) → Q r { s with heap := h' }) :
    wpAny (model P w) A (setAddHashed a (.ref b) (k.hash w)) Q X s := by
  obtain ⟨o, ho, hx, hd⟩ := R.obj
  have sz := ents_size R.ents
  have hrm := R.rm
  unfold setAddHashed
  refine wpAny_holding ?_
  rw [show (100000 : Nat) = 99999 + 1 from rfl, setAddHashedIn_succ]
  refine wpAny_bind (wpAny_setState_of ho hd R.fit ?_)
  dsimp only
  refine wp_if_neg (by simp [byScan, Value.scannable]) ?_
  try refine wpAny_bind (wpAny_pure ?_)
  refine wpAny_bind (seek0 R hb hu (fun hm => ?_) fun K hm k1 k2 => ?_)
  · dsimp only
    exact wpAny_pure (q false s.heap L es ep t (Heap.SameBut.refl a s.heap) R (fun _ => rfl) fun z => absurd hm z)
  · dsimp only
    refine wpAny_bind (wpAny_setState_of ho hd R.fit ?_)
    dsimp only
    obtain ⟨q1, q2, q3, q4, q5, q6, q7, q8, q9⟩ := R.tb.put k1 k2
    rw [List.length_map] at q2 q9
    generalize t.put (way t.mask (k.hash w) K) = pt at q1 q3 q4 q5 q6 q7 q8 q9 ⊢
    obtain ⟨t1, j⟩ := pt
    dsimp only at q1 q3 q4 q5 q6 q7 q8 q9 ⊢
    rw [← q1] at q2 q3
    have pm := put_perm L j (b, k)
    have e1 : (SetTable.insertAt es j (k.hash w, Value.ref b)).toList = (L.take j ++ (b, k) :: L.drop j).map (entR w) := by
      rw [SetTable.toList_insertAt, R.ents, List.map_append, List.map_cons, List.map_take, List.map_drop]; rfl
    have e2 : (L.take j ++ (b, k) :: L.drop j).map (hsh w) = (L.map (hsh w)).take j ++ k.hash w :: (L.map (hsh w)).drop j := by
      rw [List.map_append, List.map_cons, List.map_take, List.map_drop]
    rw [← e2] at q3
    have ln : (L.take j ++ (b, k) :: L.drop j).length = L.length + 1 := pm.length_eq
    have sz1 := ents_size e1
    generalize SetTable.insertAt es j (k.hash w, Value.ref b) = es1 at e1 sz1 ⊢
    generalize L.take j ++ (b, k) :: L.drop j = L1 at pm ln q3 e1 sz1
    have dis1 : (L1.map (·.2)).Nodup := (pm.map (·.2)).nodup_iff.mpr (by rw [List.map_cons]; exact List.nodup_cons.mpr ⟨hm, R.dis⟩)
    -- whatever is said of hashing by value
    have rest : ∀ t2 : SetTable, TabOk t2 (L1.map (hsh w)) → t2.mask = t.mask → t2.led = t.led → t2.fill = L.length + 1 → wpAny (model P w) A (do
        storeSet a es1 t2
        if (!false && t2.tooFull) = true then setRelay a (SetTable.grown (es.size + 1))
        return true) Q X s := by
      intro t2 T2 m2 l2 f2
      have hsb : Heap.SameBut a s.heap (s.heap.update a (Obj.putSet es1 t2)) := Heap.SameBut.update ..
      have p2 : t2.place.size = L1.length := by have z := T2.sz; rwa [List.length_map] at z
      refine wpAny_bind (wpAny_storeSet_of ho hd ?_ (by rw [sz1, ln, sizeLine_eq]; omega))
      have ho1 := store_at (es' := es1) (t' := t2) ho hd
      generalize s.heap.update a (Obj.putSet es1 t2) = h1 at hsb ho1 ⊢
      have flat1 : ∀ x ∈ L1, FlatAt h1 x.2 x.1 := fun x hx1 => by
        rcases List.mem_cons.mp (pm.mem_iff.mp hx1) with z | z
        · rw [z]; exact hb.but ho hd hsb
        · exact (R.flat x z).but ho hd hsb
      have ldd1 : w.params.followText "set-order" = true ∨ t2.led = true := by rw [l2]; exact R.ldd
      by_cases full : t2.tooFull = true
      · have many : (L.length + 1) * 5 ≥ t2.mask * 3 := by
          have z := full
          unfold SetTable.tooFull at z
          rwa [decide_eq_true_eq, f2] at z
        have two : (t.mask = 7 ∧ L.length = 4) ∨ (t.mask = 31 ∧ L.length = 18) := by
          rw [m2] at many
          rcases R.tb.mok with e | e | e <;> rw [e] at many hrm
          · exact .inl ⟨e, by omega⟩
          · exact .inr ⟨e, by omega⟩
          · omega
        have go : ∀ M, SetTable.sizeAbove (SetTable.grown (L.length + 1)) - 1 = M → MaskOk M → SetTable.sizeAbove (SetTable.grown (L.length + 1)) ≤ 128 → (L.length + 1) * 5 < M * 3 →
            wpAny (model P w) A (setRelay a (SetTable.grown (L.length + 1))) (fun _ s' => wpAny (model P w) A (pure true) Q X s') X { s with heap := h1 } := fun M g1 g2 g3 g4 =>
          relay (s := { s with heap := h1 }) ho1 hx rfl e1 p2 T2.dm (by rw [ln, m2]; omega) dis1 flat1 ldd1 (by rw [ln]; exact hlt) g1 g2 g3 (by rw [ln]; exact g4)
            fun h2 Lb es2 ep2 t3 sb2 R2 pm2 => wpAny_pure (q true h2 Lb es2 ep2 t3 (hsb.trans sb2) R2 (fun z => absurd z hm) fun _ => pm2.trans pm)
        rw [sz]
        first
          | (refine wpAny_bind ?_; refine wp_if_pos (by simp [full]) ?_)
          | (refine wp_if_pos (by simp [full]) ?_; refine wpAny_bind ?_)
        rcases two with ⟨_, z⟩ | ⟨_, z⟩
        · exact go 31 (by rw [z, size_20]) (.inr (.inl rfl)) (by rw [z, size_20]; decide) (by omega)
        · exact go 127 (by rw [z, size_76]) (.inr (.inr rfl)) (by rw [z, size_76]; decide) (by omega)
      · first
          | refine wp_if_neg (by simp [full]) ?_
          | (refine wpAny_bind ?_; refine wp_if_neg (by simp [full]) ?_; refine wpAny_pure ?_)
        refine wpAny_pure (q true h1 L1 es1 (ep + 1) t2 hsb ⟨⟨_, ho1, hx, rfl⟩, e1, T2, dis1, flat1, ldd1, ?_, by rw [ln]; exact hlt⟩ (fun z => absurd z hm) fun _ => pm)
        have z := full
        unfold SetTable.tooFull at z
        rw [decide_eq_true_eq, f2] at z
        rw [ln]
        omega
    have off : ∀ b : Bool, TabOk { t1 with plain := b } (L1.map (hsh w)) := fun b => ⟨q3.ris, q3.dm, q3.sz, q3.mok, q3.bd, q3.reach⟩
    by_cases pl : t1.plain = true
    · first
        | (refine wpAny_bind ?_; refine wp_if_pos pl ?_; refine byv_flat hb fun r => ?_)
        | refine wp_if_pos pl (wpAny_bind (byv_flat hb fun r => ?_))
      cases r
      · simp only [Bool.false_eq_true, if_false]
        exact rest _ (off false) q4 q5 q9
      · simp only [if_true]
        exact rest _ q3 q4 q5 q9
    · first
        | (refine wpAny_bind ?_; refine wp_if_neg pl ?_; refine wpAny_pure ?_)
        | refine wp_if_neg pl (wpAny_bind (wpAny_pure ?_))
      simp only [if_true]
      exact rest _ q3 q4 q5 q9
end
end G
/-! HG: sets of texts: one put in; set(xs) of a list, a tuple. -/
namespace G
open PySem PySem.Spec PyProof.Rows L2

/-! ### texts -/
def txtOf (e : Int × Value) : Str := match e.2 with
  | .str x _ => x
  | _ => Str.empty
def IsTx (w : World) (e : Int × Value) : Prop := ∃ x tk, e.2 = Value.str x tk ∧ e.1 = hashStr w x
/-- the set of texts at a: xs its members -/
def XSet (w : World) (h : Heap) (a : Addr) (xs : List Str) : Prop :=
  ∃ o es ep t, h.get? a = some o ∧ o.ExactSet ∧ o.data = .set es ep t ∧ (∀ e ∈ es.toList, IsTx w e) ∧ es.toList.map txtOf = xs ∧ xs.Nodup ∧ es.size < scanBound ∧ t.fits es.size = true ∧ Ris t.place.toList ∧ (w.params.followText "set-order" = true ∨ t.led = true)
section
variable {P : Program} {w : World} {A : Around} {X : Value → Shared → Prop} {s : Shared} {a : Addr}
abbrev tK (P : Program) (w : World) := PySem.strKind P w
theorem tx_elems {l : List (Int × Value)} (g : ∀ e ∈ l, IsTx w e) : ElemsOf (tK P w) l := fun e he => by
  obtain ⟨x, tk, h1, h2⟩ := g e he
  exact ⟨⟨x, by rw [h1]; exact strKind_is P w x tk, h2⟩, by rw [h1]; rfl⟩
theorem tx_is {e : Int × Value} (g : IsTx w e) (x : Str) : (tK P w).is x e.2 = true ↔ txtOf e = x := by
  obtain ⟨y, tk, h1, _⟩ := g
  unfold txtOf
  rw [h1]
  show Value.isStrOf x (.str y tk) = true ↔ y = x
  simp only [Value.isStrOf]
  exact beq_iff_eq
theorem xset_store {g : Bool → Sem Unit} (hg : ∀ (b : Bool) (s₁ : Shared) (Q' : Unit → Shared → Prop), Q' () s₁ → wpAny (model P w) A (g b) Q' X s₁)
    {o : Obj} {es es1 : Array (Int × Value)} {ep : Nat} {t t2 : SetTable} (e0 : s.heap.get? a = some o) (e1 : o.ExactSet) (e2 : o.data = .set es ep t) (g1 : ∀ e ∈ es1.toList, IsTx w e) (nd1 : (es1.toList.map txtOf).Nodup)
    (b1 : es1.size < scanBound) (f2 : t2.fits es1.size = true) (r2 : Ris t2.place.toList) (l2 : w.params.followText "set-order" = true ∨ t2.led = true) {dum : Bool} {R : Option Bool → Shared → Prop}
    (q : ∀ h' xs, Heap.SameBut a s.heap h' → XSet w h' a xs → xs.Perm (es1.toList.map txtOf) → R (some true) { s with heap := h' }) :
    wpAny (model P w) A (storeSet a es1 t2 >>= fun _ => if (!dum && t2.tooFull) = true then (do
            g (relayAll t2 es1 (SetTable.grown es1.size)).2.2
            storeSet a (relayAll t2 es1 (SetTable.grown es1.size)).1 (relayAll t2 es1 (SetTable.grown es1.size)).2.1
            pure (some true)) else pure (some true)) R X s := by
  refine wpAny_bind (wpAny_storeSet_of e0 e2 ?_ (fits_of_scanBound b1))
  have o1 := store_at (es' := es1) (t' := t2) e0 e2
  have s1 := Heap.SameBut.update s.heap a (Obj.putSet es1 t2)
  split
  · have pm := relayAll_perm t2 es1 (SetTable.grown es1.size)
    have f3 := relayAll_fits t2 es1 (SetTable.grown es1.size)
    have r3 := relayAll_ris t2 es1 (SetTable.grown es1.size)
    have l3 := relayAll_led t2 es1 (SetTable.grown es1.size)
    generalize relayAll t2 es1 (SetTable.grown es1.size) = Z at pm f3 r3 l3 ⊢
    obtain ⟨es2, t3, gave⟩ := Z
    dsimp only at pm f3 r3 l3 ⊢
    have b2 : es2.size < scanBound := by rw [← Array.length_toList, pm.length_eq, Array.length_toList]; exact b1
    refine wpAny_bind (hg _ _ _ ?_)
    refine wpAny_bind (wpAny_storeSet_of o1 rfl ?_ (fits_of_scanBound b2))
    have o2 := store_at (es' := es2) (t' := t3) o1 rfl
    exact wpAny_pure (q _ _ (s1.trans (Heap.SameBut.update _ a _)) ⟨_, es2, _, t3, o2, e1, rfl, fun e he => g1 e (pm.mem_iff.mp he), rfl, (pm.map txtOf).nodup_iff.mpr nd1, b2, f3, r3, l2.imp id fun z => by rw [l3]; exact z⟩ (pm.map txtOf))
  · exact wpAny_pure (q _ _ s1 ⟨_, es1, _, t2, o1, e1, rfl, g1, rfl, nd1, b1, f2, r2, l2⟩ (List.Perm.refl _))
theorem addTx {x : Str} {tk : Tok} {xs : List Str} {Q : Bool → Shared → Prop} (R : XSet w s.heap a xs) (room : xs.length + 1 < scanBound)
    (q : ∀ r h' ys, Heap.SameBut a s.heap h' → XSet w h' a ys → (x ∈ xs → ys = xs) → (x ∉ xs → ys.Perm (x :: xs)) → Q r { s with heap := h' }) : wpAny (model P w) A (setAddHashed a (.str x tk) (hashStr w x)) Q X s := by
  obtain ⟨o, es, ep, t, e0, e1, e2, g, ex, nd, bb, ff, rr, ll⟩ := R
  have key : (tK P w).is x (.str x tk) = true := strKind_is P w x tk
  have sc : (Value.str x tk).scannable = true := rfl
  have el : ElemsOf (tK P w) es.toList := tx_elems g
  unfold setAddHashed setAddHashedIn
  refine wpAny_holding (wpAny_bind (wpAny_setState_of e0 e2 ff ?_))
  dsimp only
  rw [byScan_of sc bb el]
  simp only [↓reduceIte]
  unfold setAddByScan
  refine wpAny_bind ?_
  refine wpAny_bind (wpAny_rule ?_)
  refine wpAny_bind (wpAny_setScan_of (knd := tK P w) key e0 e2 ff el ?_)
  cases fi : List.findIdx? (fun e => (tK P w).is x e.2) es.toList with
  | some j =>
    dsimp only
    obtain ⟨hj, pj, _⟩ := List.findIdx?_eq_some_iff_getElem.mp fi
    have hm : x ∈ xs := by
      rw [← ex]
      exact List.mem_map.mpr ⟨_, List.getElem_mem hj, (tx_is (g _ (List.getElem_mem hj)) x).1 pj⟩
    exact wpAny_pure (wpAny_pure (q false s.heap xs (Heap.SameBut.refl a s.heap) ⟨o, es, ep, t, e0, e1, e2, g, ex, nd, bb, ff, rr, ll⟩ (fun _ => rfl) fun z => absurd hm z))
  | none =>
    dsimp only
    have hm : x ∉ xs := fun z => by
      rw [← ex] at z
      obtain ⟨e, he, q1⟩ := List.mem_map.mp z
      have c := List.findIdx?_eq_none_iff.mp fi e he
      rw [(tx_is (g e he) x).2 q1] at c
      cases c
    have gw : ∀ (b : Bool) {s₁ : Shared} {Q' : Unit → Shared → Prop}, Q' () s₁ → wpAny (model P w) A (match b with | true => rule "set.scan.the-table-gave-way" | false => pure ()) Q' X s₁ :=
      fun b s₁ Q' z => by cases b <;> first | exact wpAny_pure z | exact wpAny_rule z
    have pm := layNew_perm t es (hashStr w x) (.str x tk)
    have f1 := layNew_fits t es (hashStr w x) (.str x tk)
    have r1 := layNew_ris t es (hashStr w x) (.str x tk) rr
    have l1 := layNew_led t es (hashStr w x) (.str x tk)
    generalize layNew t es (hashStr w x) (.str x tk) = Z at pm f1 r1 l1 ⊢
    obtain ⟨es1, t1, dum, gave⟩ := Z
    dsimp only at pm f1 r1 l1 ⊢
    rw [Array.toList_push] at pm
    have pc : es1.toList.Perm ((hashStr w x, Value.str x tk) :: es.toList) := pm.trans (List.perm_append_singleton _ _)
    have pk : (es1.toList.map txtOf).Perm (x :: xs) := by
      rw [← ex]
      exact pc.map txtOf
    have g1 : ∀ e ∈ es1.toList, IsTx w e := fun e he => by
      rcases List.mem_cons.mp (pc.mem_iff.mp he) with z | z
      · rw [z]; exact ⟨x, tk, rfl, rfl⟩
      · exact g e z
    have nd1 : (es1.toList.map txtOf).Nodup := pk.nodup_iff.mpr (List.nodup_cons.mpr ⟨hm, nd⟩)
    have b1 : es1.size < scanBound := by
      have z := pk.length_eq
      rw [List.length_map, Array.length_toList, List.length_cons] at z
      omega
    have led1 : w.params.followText "set-order" = true ∨ t1.led = true := ll.imp id fun z => by rw [l1]; exact z
    have fin : ∀ h' ys, Heap.SameBut a s.heap h' → XSet w h' a ys → ys.Perm (es1.toList.map txtOf) → Q true { s with heap := h' } := fun h' ys sb r p => q true h' ys sb r (fun z => absurd z hm) fun _ => p.trans pk
    refine wpAny_bind (gw _ ?_)
    split
    · refine wpAny_bind ?_
      rw [hashByValue_scannable 8 sc]
      refine wpAny_pure ?_
      refine xset_store ?_ e0 e1 e2 g1 nd1 b1 ?_ ?_ ?_ ?_
      · intro b s₁ Q' z; cases b <;> first | exact wpAny_pure z | exact wpAny_rule z
      · first | (split <;> first | exact f1 | exact SetTable.fits_plain_off f1) | exact f1
      · first | (split <;> exact r1) | exact r1
      · first | (split <;> exact led1) | exact led1
      · intro h' ys sb r p; dsimp only; exact wpAny_pure (fin h' ys sb r p)
    · refine wpAny_bind (wpAny_pure ?_)
      simp only [↓reduceIte]
      refine xset_store ?_ e0 e1 e2 g1 nd1 b1 f1 r1 led1 ?_
      · intro b s₁ Q' z; cases b <;> first | exact wpAny_pure z | exact wpAny_rule z
      · intro h' ys sb r p; dsimp only; exact wpAny_pure (fin h' ys sb r p)
end
end G
/-! HH: set(xs) of a list, a tuple: the walk; len and sorted of it. -/
namespace G
open PySem PySem.Spec PyProof.Rows L2
abbrev Old (h0 h : Heap) : Prop := ∀ b o, h0.get? b = some o → h.get? b = some o
section
variable {P : Program} {w : World} {A : Around}
/-- what filling a set asks: J i holds of the set at S when i items are in it -/
structure Fills (P : Program) (w : World) (A : Around) (h0 : Heap) (S : Addr) (n : Nat) (Pv : Nat → Value → Prop) (J : Nat → Heap → Prop) : Prop where
  mv : ∀ i h h', J i h → (∀ o, h.get? S = some o → h'.get? S = some o) → Old h0 h' → J i h'
  put : ∀ i v (s : Shared) (X : Value → Shared → Prop) (Q : Bool → Shared → Prop), i < n → Pv i v → J i s.heap → Old h0 s.heap →
    (∀ r h' tk, s.toks ≤ tk → Heap.SameBut S s.heap h' → J (i + 1) h' → Q r { s with heap := h', toks := tk }) → wpAny (model P w) A (setAdd S v) Q X s
theorem fill_loop {I : Addr} {fp wr : List Addr} {U : Array GenState → Array GenState → Prop} {n : Nat} {Pv : Nat → Value → Prop} {St : Nat → Shared → Prop} {R : Result → Shared → Prop} {J : Nat → Heap → Prop} {h0 : Heap} {S : Addr}
    (W : WalksS P w A.in1 I fp wr U n Pv St) (F : Fills P w A.in1 h0 S n Pv J) (nS : S ∉ fp) (fS : h0.get? S = none) (fw : ∀ b ∈ wr, h0.get? b = none) :
    ∀ (k i : Nat) (s : Shared), n - i = k → i ≤ n → St i s → Old h0 s.heap → J i s.heap → (∀ s', Moved (S :: wr) U s s' → J n s'.heap → Old h0 s'.heap → R (.ok (.ret .none)) s') →
      codeAny (model P w) A (.builtin "set.update.loop" ⟨[.ref S, .ref I], []⟩) R s := by
  have nw : S ∉ wr := fun z => nS (W.sub _ z)
  have more : ∀ b ∈ wr, b ∈ S :: wr := fun b hb => List.mem_cons_of_mem _ hb
  have kp : ∀ {s s' : Shared}, Moved wr U s s' → Old h0 s.heap → Old h0 s'.heap := fun m ol b o e => m.heap b o (fun z => by rw [fw b z] at e; cases e) (ol b o e)
  intro k
  induction k with
  | zero =>
    intro i s hk hi hs ol j q
    obtain rfl : i = n := by omega
    refine codeAny_builtin PyProof.Rows.F.entry_set_update_loop ?_
    rw [Around.under_plainId PyProof.Rows.F.plain_set_update_loop _]
    show wpAny _ A.in1 (pyNext (.ref I) >>= _) _ _ s
    refine wpAny_bind (W.done s _ _ hs fun s' m => ?_)
    show wpAny _ A.in1 (ret Value.none) _ _ s'
    exact wpAny_pure (q s' (m.mono more) (F.mv i _ _ j (fun o e => m.heap S o nw e) (kp m ol)) (kp m ol))
  | succ k ih =>
    intro i s hk hi hs ol j q
    have lt : i < n := by omega
    refine codeAny_builtin PyProof.Rows.F.entry_set_update_loop ?_
    rw [Around.under_plainId PyProof.Rows.F.plain_set_update_loop _]
    show wpAny _ A.in1 (pyNext (.ref I) >>= _) _ _ s
    refine wpAny_bind (W.item i s _ _ lt hs fun v s' pv hs' m => ?_)
    have ol' := kp m ol
    show wpAny _ A.in1 (holding [v] (setAdd S v) >>= _) _ _ s'
    refine wpAny_bind (wpAny_holding ?_)
    refine F.put i v s' _ _ lt pv (F.mv i _ _ j (fun o e => m.heap S o nw e) ol') ol' fun r h' tk ht sb j' => ?_
    have ol2 : Old h0 h' := fun b o e => (sb.2 b (fun z => by rw [z, fS] at e; cases e)).trans (ol' b o e)
    refine wpAny_pure ⟨plainId_quiet PyProof.Rows.F.plain_set_update_loop _, ih (i + 1) _ (by omega) lt (W.frame _ s' _ _ hs' ht fun b hb o e => (sb.2 b (fun z => nS (z ▸ hb))).trans e) ol2 j' fun s2 m2 j2 o2 => ?_⟩
    refine q s2 (Moved.trans W.gtrans ((m.mono more).then_heap ht fun b o hb e => ?_) m2) j2 o2
    exact (sb.2 b (fun z => hb (z ▸ List.mem_cons_self))).trans e
/-- the empty set, as set() lays it -/
abbrev emptyO (w : World) : Obj := { cls := .type "set", dict := none, data := .set #[] 0 (.fresh 0 0 (!w.params.followText "set-order")) }
/-- set(xs) -/
theorem set_of {X : Value → Shared → Prop} {s : Shared} (lst : Bool) {l : Addr} {items : Array Value} {J : Nat → Heap → Prop} {Q : Value → Shared → Prop} (hh : A.handled = none) (hl : if lst = true then s.heap.IsList l items else s.heap.IsTuple l items)
    (j0 : ∀ h' : Heap, h'.get? s.heap.objs.size = some (emptyO w) → Old s.heap h' → J 0 h')
    (F : Fills P w A.in1.in1.in1 s.heap s.heap.objs.size items.size (fun i v => items[i]? = some v) J)
    (h : ∀ (h' : Heap) (tk : Nat), J items.size h' → Old s.heap h' → Q (.ref s.heap.objs.size) { s with heap := h', toks := tk }) :
    wpAny (model P w) A (call (.type "set") [.ref l]) Q X s := by
  obtain ⟨c, tl, hmro⟩ := PySem.F.called_set.mro
  have hmade := PySem.F.called_set.made
  have hsub := PySem.F.called_set.sub
  refine wpAny_call (codeAny_of_tree ?_)
  show wpAny _ _ (callAny (.type "set") _) _ _ _
  refine wpAny_pure ⟨Code.quiet_builtin _ (by decide +kernel), codeAny_builtin PySem.F.entry_type_call ?_⟩
  rw [Around.under_plain (weight_type_call_type "set" [.ref l] []) rfl]
  have h1 := PySem.F.called_set.notType
  have h2 := PySem.F.called_set.canCreate
  have hct := PySem.F.typeCall_set_1 (.ref l)
  repeat (any_goals (first | assumption | wp_step))
  refine codeAny_mono (code_set_led1 (.ref l) (E := X) (Q₁ := fun obj s₁ => obj = .ref s.heap.objs.size ∧ s₁ = { s with heap := s.heap.push (emptyO w) }) ⟨rfl, rfl⟩) fun r s₁ hr => ?_
  cases r with
  | error e => exact hr
  | ok fl =>
    cases fl with
    | ret obj =>
      obtain ⟨rfl, rfl⟩ := hr
      have hS : (s.heap.push (emptyO w)).get? s.heap.objs.size = some (emptyO w) := Heap.get?_push_size _ rfl
      have hT : Shared.TypeIs { s with heap := s.heap.push (emptyO w) } (.ref s.heap.objs.size) "set" := ⟨_, hS, rfl⟩
      have hli := PySem.F.called_set.init.lookup
      have hbi := PySem.F.called_set.init.bind (.ref s.heap.objs.size)
      repeat (any_goals (first | assumption | wp_step))
      refine codeAny_mono (codeAny_call_builtin (R := wants (fun r s₂ => r = .none ∧ ∃ h' tk, s₂ = { s with heap := h', toks := tk } ∧ J items.size h' ∧ Old s.heap h') X) PySem.F.called_set.init.plain PySem.F.entry_set_init (check_set_init_1 hT ?_)) fun r₂ s₂ hr₂ => ?_
      · have z1 : (s.heap.push (emptyO w)).objs.size = s.heap.objs.size + 1 := Heap.size_push ..
        have nn : ∀ b, s.heap.objs.size ≤ b → s.heap.get? b = none := fun b hb => by
          cases q : s.heap.get? b with
          | none => rfl
          | some o => exact absurd (Nat.lt_of_lt_of_le (Heap.lt_size q) hb) (Nat.lt_irrefl _)
        have hh3 : A.in1.in1.in1.handled = none := by simp [hh]
        have nf : ∀ {l : Addr}, l < s.heap.objs.size → s.heap.objs.size ∉ [(s.heap.push (emptyO w)).objs.size, l] := fun hlS => by
          rw [z1]; simp only [List.mem_cons, List.mem_singleton, List.not_mem_nil, or_false, not_or]
          exact ⟨Nat.ne_of_lt (Nat.lt_succ_self _), Nat.ne_of_gt hlS⟩
        have ni : ∀ {l : Addr}, l < s.heap.objs.size → l ≠ (s.heap.push (emptyO w)).objs.size := fun hlS => by
          rw [z1]; exact Nat.ne_of_lt (Nat.lt_succ_of_lt hlS)
        have fin : ∀ s' : Shared, s'.gens = s.gens → s'.drawn = s.drawn → s'.os = s.os → J items.size s'.heap → Old s.heap s'.heap →
            (Value.none = .none ∧ ∃ h' tk, s' = { s with heap := h', toks := tk } ∧ J items.size h' ∧ Old s.heap h') := fun s' b1 b2 b3 j o => by
          obtain ⟨h', g', d', tk', os'⟩ := s'
          simp only at b1 b2 b3
          subst b1; subst b2; subst b3
          exact ⟨rfl, h', tk', rfl, j, o⟩
        cases lst with
        | true =>
          simp only [if_true] at hl
          obtain ⟨ol, hol, hcl, nl, hdl⟩ := hl
          obtain ⟨ocls, odict, odata, oslots⟩ := ol
          simp only at hcl hdl
          subst hcl; subst hdl
          have hol' : (s.heap.push (emptyO w)).get? l = some { cls := .type "list", dict := odict, data := .seq items nl, slots := oslots } := Heap.get?_push_of_some _ hol
          have hsls := PySem.F.sub_list_set
          have hslf := PySem.F.sub_list_frozenset
          have hne : (Value.type "list" == Value.type "dict") = false := by decide
          have hl1 : (s.heap.push (emptyO w)).IsList l items := ⟨_, hol', rfl, nl, rfl⟩
          unfold Builtin.«set.__init__» noKeywords Builtin.Frozenset.updateFrom
          generalize hPI : pyIter = PI
          wp_walk
          subst hPI
          refine wpAny_pyIter_list hl1 (wpAny_bind (wpAny_runValue ?_))
          have hlS : l < s.heap.objs.size := Heap.lt_size hol
          refine fill_loop ((Walks.list hh3 _ l (ni hlS) items).toS) F (nf hlS) (nn _ (Nat.le_refl _)) (fun b hb => nn b (by rw [List.mem_singleton.mp hb, z1]; exact Nat.le_succ _)) (items.size - 0) 0 _ (by omega) (Nat.zero_le _)
            ⟨⟨_, Heap.get?_push_size _ rfl, rfl, rfl⟩, (hl1.push _)⟩ (fun b o e => Heap.get?_push_of_some _ (Heap.get?_push_of_some _ e)) (j0 _ (Heap.get?_push_of_some _ hS) fun b o e => Heap.get?_push_of_some _ (Heap.get?_push_of_some _ e)) fun s' m j o => ?_
          show wpAny _ _ _ _ _ _
          refine wpAny_pure ?_
          show wpAny _ _ (ret Value.none) _ _ _
          exact wpAny_pure (fin s' m.gens m.drawn m.os j o)
        | false =>
          simp only [Bool.false_eq_true, if_false] at hl
          obtain ⟨ol, hol, hcl, nl, hdl⟩ := hl
          obtain ⟨ocls, odict, odata, oslots⟩ := ol
          simp only at hcl hdl
          subst hcl; subst hdl
          have hol' : (s.heap.push (emptyO w)).get? l = some { cls := .type "tuple", dict := odict, data := .seq items nl, slots := oslots } := Heap.get?_push_of_some _ hol
          have hsls := PySem.F.sub_tuple_set
          have hslf := PySem.F.sub_tuple_frozenset
          have hne : (Value.type "tuple" == Value.type "dict") = false := by decide
          have hl1 : (s.heap.push (emptyO w)).IsTuple l items := ⟨_, hol', rfl, nl, rfl⟩
          unfold Builtin.«set.__init__» noKeywords Builtin.Frozenset.updateFrom
          generalize hPI : pyIter = PI
          wp_walk
          subst hPI
          refine wpAny_pyIter_tuple hl1 (wpAny_bind (wpAny_runValue ?_))
          have hlS : l < s.heap.objs.size := Heap.lt_size hol
          refine fill_loop ((Walks.tuple hh3 _ l (ni hlS) items).toS) F (nf hlS) (nn _ (Nat.le_refl _)) (fun b hb => nn b (by rw [List.mem_singleton.mp hb, z1]; exact Nat.le_succ _)) (items.size - 0) 0 _ (by omega) (Nat.zero_le _)
            ⟨⟨_, Heap.get?_push_size _ rfl, rfl, rfl⟩, (hl1.push _)⟩ (fun b o e => Heap.get?_push_of_some _ (Heap.get?_push_of_some _ e)) (j0 _ (Heap.get?_push_of_some _ hS) fun b o e => Heap.get?_push_of_some _ (Heap.get?_push_of_some _ e)) fun s' m j o => ?_
          show wpAny _ _ _ _ _ _
          refine wpAny_pure ?_
          show wpAny _ _ (ret Value.none) _ _ _
          exact wpAny_pure (fin s' m.gens m.drawn m.os j o)
      · cases r₂ with
        | error e => exact hr₂
        | ok fl₂ =>
          cases fl₂ with
          | ret r =>
            obtain ⟨rfl, h', tk, rfl, hJ, hk'⟩ := hr₂
            repeat (any_goals (first | assumption | wp_step))
            exact h _ _ hJ hk'
          | _ => exact hr₂.elim
    | _ => exact hr.elim
end
end G
/-! HI: len(set(xs)), sorted(set(xs)). -/
namespace G
open PySem PySem.Spec PyProof.Rows L2

/-! ### on data -/
def hasD (ds : List PyData) (d : PyData) : Bool := ds.any fun z => PyData.eqv z d
def dedD (ds : List PyData) : List PyData := ds.foldl (fun acc d => if hasD acc d = true then acc else acc ++ [d]) []
def strB : PyData → Bool
  | .str _ => true
  | _ => false
def flatD (d : PyData) : Bool := match nkO d with
  | some n => flatK n
  | none => false
def setOk (ds : List PyData) : Bool := decide (ds.length < 64) && (ds.all strB || ds.all flatD)
theorem ded_snoc (ds : List PyData) (d : PyData) : dedD (ds ++ [d]) = if hasD (dedD ds) d = true then dedD ds else dedD ds ++ [d] := by
  unfold dedD
  rw [List.foldl_append]; rfl
theorem snocR {α : Type} {p : List α → Prop} (h0 : p []) (h1 : ∀ l a, p l → p (l ++ [a])) (l : List α) : p l := by
  have key : ∀ l : List α, p l.reverse := fun l => by
    induction l with
    | nil => exact h0
    | cons a l ih => rw [List.reverse_cons]; exact h1 _ _ ih
  have z := key l.reverse
  rwa [List.reverse_reverse] at z
theorem ded_spec : ∀ (ds : List PyData), (∀ x ∈ ds, ∀ y ∈ ds, PyData.eqv x y = true ↔ x = y) → (dedD ds).Nodup ∧ (∀ d, d ∈ dedD ds ↔ d ∈ ds) := by
  intro ds
  induction ds using snocR with
  | h0 => intro _; exact ⟨List.nodup_nil, fun d => Iff.rfl⟩
  | h1 ds d ih =>
    intro he
    obtain ⟨h1, h2⟩ := ih fun x hx y hy => he x (List.mem_append_left _ hx) y (List.mem_append_left _ hy)
    have hh : hasD (dedD ds) d = true ↔ d ∈ ds := by
      unfold hasD
      rw [List.any_eq_true]
      constructor
      · rintro ⟨z, hz, e⟩
        have hz' := (h2 z).1 hz
        have e2 := (he z (List.mem_append_left _ hz') d (List.mem_append_right _ List.mem_cons_self)).1 e
        rw [← e2]; exact hz'
      · intro hd
        exact ⟨d, (h2 d).2 hd, (he d (List.mem_append_left _ hd) d (List.mem_append_left _ hd)).2 rfl⟩
    rw [ded_snoc]
    by_cases c : d ∈ ds
    · rw [if_pos (hh.2 c)]
      refine ⟨h1, fun x => (h2 x).trans ?_⟩
      rw [List.mem_append, List.mem_singleton]
      exact ⟨.inl, fun z => z.elim id fun e => e ▸ c⟩
    · rw [if_neg fun z => c (hh.1 z)]
      refine ⟨List.nodup_append.mpr ⟨h1, List.nodup_cons.mpr ⟨List.not_mem_nil, List.nodup_nil⟩, fun x hx y hy => ?_⟩, fun x => ?_⟩
      · rw [List.mem_singleton.mp hy]
        intro e
        subst e
        exact c ((h2 x).1 hx)
      · rw [List.mem_append, List.mem_append, h2 x]
theorem nkD_inj {a b : NestedKey} (h : nkD a = nkD b) : a = b := by
  have e : PyData.eqv (nkD a) (nkD b) = true := by rw [h, eqv_nk]; exact NestedKey.beq_self b
  rw [eqv_nk] at e
  exact NestedKey.eq_of_beq a b e
theorem eqv_nkD (a b : NestedKey) : PyData.eqv (nkD a) (nkD b) = true ↔ nkD a = nkD b := by
  rw [eqv_nk]
  exact ⟨fun h => by rw [NestedKey.eq_of_beq a b h], fun h => by rw [nkD_inj h]; exact NestedKey.beq_self b⟩
theorem strs_nk {ds : List PyData} (h : ds.all strB = true) : ∃ xs : List Str, ds = xs.map .str := by
  induction ds with
  | nil => exact ⟨[], rfl⟩
  | cons d ds ih =>
    rw [List.all_cons, Bool.and_eq_true] at h
    obtain ⟨xs, e⟩ := ih h.2
    cases d with
    | str x => exact ⟨x :: xs, by rw [e]; rfl⟩
    | _ => cases h.1
theorem flats_nk {ds : List PyData} (h : ds.all flatD = true) : ∃ ks : List NestedKey, ds = ks.map nkD ∧ ∀ k ∈ ks, flatK k = true := by
  induction ds with
  | nil => exact ⟨[], rfl, fun k hk => nomatch hk⟩
  | cons d ds ih =>
    rw [List.all_cons, Bool.and_eq_true] at h
    obtain ⟨ks, e, hf⟩ := ih h.2
    unfold flatD at h
    cases q : nkO d with
    | none => rw [q] at h; cases h.1
    | some n =>
      rw [q] at h
      refine ⟨n :: ks, by rw [e, nkO_eq q]; rfl, fun k hk => ?_⟩
      rcases List.mem_cons.mp hk with z | z
      · rw [z]; exact h.1
      · exact hf k z

/-! ### a set that was made -/
structure Made (X : Cx) (H : Hp) (ok : Addr → Prop) (h : Heap) (S : Addr) (ds : List PyData) : Prop where
  ex : ∃ o es ep t ws ds', h.get? S = some o ∧ o.ExactSet ∧ o.data = .set es ep t ∧ t.fits es.size = true ∧ es.size < scanBound ∧ Ris t.place.toList ∧ (X.w.params.followText "set-order" = true ∨ t.led = true) ∧
    Vals ws (es.toList.map (·.2)) ∧ RepL X.K H ok ws ds' ∧ ds'.Perm (dedD ds)
section
variable {X : Cx} {pins : List (Addr × Obj)} {σ : L2.St} {H : Hp} {s : Shared} {ok : Addr → Prop}
theorem keys_of (I : Inv X pins σ H s) : ∀ {ks : List NestedKey} {xs : List V} {us : List Value}, RepL X.K H ok xs (ks.map nkD) → Vals xs us → (∀ k ∈ ks, flatK k = true) →
    ∃ qs : List KA, us = qs.map (fun q => Value.ref q.1) ∧ ks = qs.map (·.2) ∧ ∀ q ∈ qs, FlatAt s.heap q.2 q.1 ∧ Rep X.K H ok (.ref q.1) (nkD q.2)
  | [], _, _, .nil, .nil, _ => ⟨[], rfl, rfl, fun q hq => nomatch hq⟩
  | k :: ks, _, _, .cons r rs, .cons ru rus, hf => by
    obtain ⟨qs, e1, e2, e3⟩ := keys_of I rs rus fun k hk => hf k (List.mem_cons_of_mem _ hk)
    have fk := hf k List.mem_cons_self
    have ni := nested_is I k _ _ r ru
    cases k with
    | tup l =>
      cases r with
      | tup r1 r2 r3 =>
        rename_i b xs0
        cases ru
        refine ⟨(b, .tup l) :: qs, by rw [e1]; rfl, by rw [e2]; rfl, fun q hq => ?_⟩
        rcases List.mem_cons.mp hq with z | z
        · rw [z]; exact ⟨⟨ni, fk⟩, .tup r1 r2 r3⟩
        · exact e3 q z
    | none => cases fk
    | num _ => cases fk
    | text _ => cases fk
/-- what the set has of the first i -/
structure GotN (qs : List KA) (i : Nat) (L : List KA) : Prop where
  sub : ∀ q ∈ L, q ∈ qs.take i
  all : ∀ q ∈ qs.take i, q.2 ∈ L.map (·.2)
  len : L.length ≤ i
theorem take_one {α : Type} {l : List α} {i : Nat} {x : α} (h : l[i]? = some x) : l.take (i + 1) = l.take i ++ [x] := by
  rw [List.take_succ, h]; rfl
theorem got_next {qs L L' : List KA} {i : Nat} {x : KA} (g : GotN qs i L) (h : qs[i]? = some x) (c1 : x.2 ∈ L.map (·.2) → L' = L) (c2 : x.2 ∉ L.map (·.2) → L'.Perm (x :: L)) : GotN qs (i + 1) L' := by
  rcases Classical.em (x.2 ∈ L.map (·.2)) with c | c
  · rw [c1 c]
    refine ⟨fun q hq => by rw [take_one h]; exact List.mem_append_left _ (g.sub q hq), fun q hq => ?_, Nat.le_succ_of_le g.len⟩
    rw [take_one h] at hq
    rcases List.mem_append.mp hq with z | z
    · exact g.all q z
    · rw [List.mem_singleton.mp z]; exact c
  · have p := c2 c
    refine ⟨fun q hq => ?_, fun q hq => ?_, by rw [p.length_eq, List.length_cons]; exact Nat.succ_le_succ g.len⟩
    · rw [take_one h]
      rcases List.mem_cons.mp (p.mem_iff.mp hq) with z | z
      · rw [z]; exact List.mem_append_right _ (List.mem_singleton.mpr rfl)
      · exact List.mem_append_left _ (g.sub q z)
    · rw [(p.map (·.2)).mem_iff, List.map_cons]
      rw [take_one h] at hq
      rcases List.mem_append.mp hq with z | z
      · exact List.mem_cons_of_mem _ (g.all q z)
      · rw [List.mem_singleton.mp z]; exact List.mem_cons_self
theorem fset_empty {w : World} {h : Heap} {S : Addr} (e : h.get? S = some (emptyO w)) : FSet w h S [] #[] 0 (.fresh 0 0 (!w.params.followText "set-order")) where
  obj := ⟨_, e, ⟨rfl, rfl, rfl⟩, rfl⟩
  ents := rfl
  tb := ⟨List.Pairwise.nil, rfl, rfl, .inl rfl, (fun x hx => nomatch hx), fun i h j hi => by simp at hi⟩
  dis := List.nodup_nil
  flat := fun q hq => nomatch hq
  ldd := by
    show _ ∨ (!w.params.followText "set-order") = true
    cases w.params.followText "set-order"
    · exact .inr rfl
    · exact .inl rfl
  rm := by show 0 * 5 < 7 * 3; decide
  lt := by show 0 < 64; decide
theorem FSet.mv {w : World} {h h' : Heap} {S : Addr} {L : List KA} {es : Array (Int × Value)} {ep : Nat} {t : SetTable} (R : FSet w h S L es ep t) (k : ∀ o, h.get? S = some o → h'.get? S = some o) (hf : ∀ q ∈ L, FlatAt h' q.2 q.1) : FSet w h' S L es ep t := by
  obtain ⟨o, e, r⟩ := R.obj
  exact ⟨⟨o, k o e, r⟩, R.ents, R.tb, R.dis, hf, R.ldd, R.rm, R.lt⟩
theorem nodup_inj {α β : Type} {f : α → β} (inj : ∀ a b, f a = f b → a = b) : ∀ {l : List α}, l.Nodup → (l.map f).Nodup
  | [], _ => List.nodup_nil
  | a :: l, h => by
    obtain ⟨h1, h2⟩ := List.nodup_cons.mp h
    refine List.nodup_cons.mpr ⟨fun z => ?_, nodup_inj inj h2⟩
    obtain ⟨b, hb, e⟩ := List.mem_map.mp z
    rw [inj b a e] at hb
    exact h1 hb
theorem reps_of : ∀ {L : List KA}, (∀ q ∈ L, Rep X.K H ok (.ref q.1) (nkD q.2)) → RepL X.K H ok (L.map fun q => V.ref q.1) (L.map fun q => nkD q.2)
  | [], _ => .nil
  | q :: L, h => .cons (h q List.mem_cons_self) (reps_of fun r hr => h r (List.mem_cons_of_mem _ hr))
theorem vals_refs : ∀ (L : List KA), Vals (L.map fun q => V.ref q.1) (L.map fun q => Value.ref q.1)
  | [] => .nil
  | _ :: L => .cons rfl (vals_refs L)
/-- set(xs) -/
theorem make_set (hc : X.calm = true) (hu : X.A.units + 64 < cLine) (I : Inv X pins σ H s) {l : Bool} {a : Addr} {xs : List V} {ds : List PyData} (hq : SqB X.K l H a xs) (rl : RepL X.K H ok xs ds) (hok : setOk ds = true) {Q : Value → Shared → Prop}
    (q : ∀ (S : Addr) (s' : Shared), Inv X pins σ H s' → Made X H ok s'.heap S ds → Q (.ref S) s') : wpAny (model X.prog X.w) X.A (call (.type "set") [.ref a]) Q X.xe s := by
  unfold setOk at hok
  rw [Bool.and_eq_true, decide_eq_true_eq, Bool.or_eq_true] at hok
  obtain ⟨h64, hk⟩ := hok
  obtain ⟨its, rv, is, _⟩ := seqB I hq
  have ln : its.length = ds.length := by rw [← rv.length, rl.length]
  have hl : if l = true then s.heap.IsList a its.toArray else s.heap.IsTuple a its.toArray := by cases l <;> exact is
  have nS : s.heap.get? s.heap.objs.size = none := by
    cases z : s.heap.get? s.heap.objs.size with
    | none => rfl
    | some o => exact absurd (Heap.lt_size z) (Nat.lt_irrefl _)
  rcases hk with hk | hk
  · -- texts
    obtain ⟨zs, ez⟩ := strs_nk hk
    subst ez
    rw [List.length_map] at ln h64
    have at_ : ∀ (i : Nat) (v : Value), its.toArray[i]? = some v → ∃ x tk, zs[i]? = some x ∧ v = .str x tk := fun i v e => by
      have e1 : its[i]? = some v := by simpa using e
      have hi : i < zs.length := by rw [← ln]; exact (List.getElem?_eq_some_iff.mp e1).1
      obtain ⟨v2, g1, g2⟩ := rl.get (i := i) (x := .str zs[i]) (by simp [hi])
      obtain ⟨u, g3, g4⟩ := rv.get g1
      rw [e1] at g3
      cases g3
      cases g2
      obtain ⟨tk, rfl⟩ := g4
      exact ⟨_, tk, List.getElem?_eq_getElem hi, rfl⟩
    refine set_of (J := fun i h => ∃ ys, XSet X.w h s.heap.objs.size ys ∧ (∀ y ∈ ys, y ∈ zs.take i) ∧ (∀ y ∈ zs.take i, y ∈ ys) ∧ ys.length ≤ i) l (I.ok.hd hc) hl (fun h' e _ => ?_) ⟨fun i h h' j k _ => ?_, fun i v s' E Q' hi hv j ol q' => ?_⟩ fun h' tk j ol => ?_
    · refine ⟨[], ⟨_, #[], 0, _, e, ⟨rfl, rfl, rfl⟩, rfl, (fun e he => absurd he (by simp)), rfl, List.nodup_nil, by decide, by rfl, List.Pairwise.nil, ?_⟩, (fun y hy => nomatch hy), (fun y hy => by simp at hy), Nat.le_refl _⟩
      show _ ∨ (!X.w.params.followText "set-order") = true
      cases X.w.params.followText "set-order"
      · exact .inr rfl
      · exact .inl rfl
    · obtain ⟨ys, ⟨o, es, ep, t, e0, r⟩, j2⟩ := j
      exact ⟨ys, ⟨o, es, ep, t, k o e0, r⟩, j2⟩
    · obtain ⟨x, tk, e1, rfl⟩ := at_ i v hv
      obtain ⟨ys, R, j1, j2, j3⟩ := j
      unfold setAdd
      refine wpAny_holding (wpAny_bind ((tK X.prog X.w).pyHash (k := x) (strKind_is _ _ _ _) ?_))
      have hi2 : i < zs.length := (List.getElem?_eq_some_iff.mp e1).1
      refine addTx (s := { s' with toks := s'.toks + 1 }) R (by unfold scanBound; omega) fun r h' ys' sb R' c1 c2 => q' r h' _ (Nat.le_succ _) sb ?_
      have tn := take_one e1
      rcases Classical.em (x ∈ ys) with c | c
      · rw [c1 c] at R'
        refine ⟨ys, R', fun y hy => by rw [tn]; exact List.mem_append_left _ (j1 y hy), fun y hy => ?_, Nat.le_succ_of_le j3⟩
        rw [tn] at hy
        rcases List.mem_append.mp hy with z | z
        · exact j2 y z
        · rw [List.mem_singleton.mp z]; exact c
      · have p := c2 c
        refine ⟨ys', R', fun y hy => ?_, fun y hy => ?_, by rw [p.length_eq, List.length_cons]; omega⟩
        · rw [tn]
          rcases List.mem_cons.mp (p.mem_iff.mp hy) with z | z
          · rw [z]; exact List.mem_append_right _ (List.mem_singleton.mpr rfl)
          · exact List.mem_append_left _ (j1 y z)
        · rw [p.mem_iff]
          rw [tn] at hy
          rcases List.mem_append.mp hy with z | z
          · exact List.mem_cons_of_mem _ (j2 y z)
          · rw [List.mem_singleton.mp z]; exact List.mem_cons_self
    · obtain ⟨ys, ⟨o, es, ep, t, e0, e1, e2, e3, e4, e5, e6, e7, e8, e9⟩, j1, j2, j3⟩ := j
      have hz : its.toArray.size = zs.length := by rw [List.size_toArray, ln]
      rw [hz, List.take_length] at j1 j2
      have okx : ∀ x ∈ zs, PyData.strOk x = true := fun x hx => by
        obtain ⟨i, hi, e⟩ := List.getElem_of_mem hx
        obtain ⟨v2, _, g2⟩ := rl.get (i := i) (x := .str x) (by simp [hi, e])
        cases g2
        assumption
      refine q _ _ (I.kept ol) ⟨o, es, ep, t, ys.map V.str, ys.map .str, e0, e1, e2, e7, e6, e8, e9, ?_, ?_, ?_⟩
      · rw [← e4]
        have key : ∀ l : List (Int × Value), (∀ e ∈ l, IsTx X.w e) → Vals ((l.map txtOf).map V.str) (l.map (·.2)) := by
          intro l
          induction l with
          | nil => intro _; exact .nil
          | cons e l ih =>
            intro h
            obtain ⟨x, tk, g1, _⟩ := h e List.mem_cons_self
            refine .cons ?_ (ih fun e' he => h e' (List.mem_cons_of_mem _ he))
            show ∃ t, e.2 = .str (txtOf e) t
            unfold txtOf
            rw [g1]
            exact ⟨tk, rfl⟩
        exact key _ e3
      · have key : ∀ l : List Str, (∀ x ∈ l, PyData.strOk x = true) → RepL X.K H ok (l.map V.str) (l.map .str) := by
          intro l
          induction l with
          | nil => intro _; exact .nil
          | cons x l ih => intro h; exact .cons (.str x (h x List.mem_cons_self)) (ih fun y hy => h y (List.mem_cons_of_mem _ hy))
        exact key ys fun x hx => okx x (j1 x hx)
      · have sp := ded_spec (zs.map .str) (fun x hx y hy => by
          obtain ⟨a, _, rfl⟩ := List.mem_map.mp hx
          obtain ⟨b, _, rfl⟩ := List.mem_map.mp hy
          exact eqv_nkD (.text a) (.text b))
        refine (List.perm_ext_iff_of_nodup (nodup_inj (fun a b e => by cases e; rfl) e5) sp.1).mpr fun d => ?_
        rw [sp.2]
        constructor
        · intro z
          obtain ⟨y, hy, e⟩ := List.mem_map.mp z
          exact List.mem_map.mpr ⟨y, j1 y hy, e⟩
        · intro z
          obtain ⟨y, hy, e⟩ := List.mem_map.mp z
          exact List.mem_map.mpr ⟨y, j2 y hy, e⟩
  · -- flat tuples
    obtain ⟨ks, ek, fk⟩ := flats_nk hk
    subst ek
    obtain ⟨qs, eq1, eq2, eq3⟩ := keys_of I rl rv fk
    have lq : its.length = qs.length := by rw [eq1, List.length_map]
    rw [List.length_map] at ln h64
    have at_ : ∀ (i : Nat) (v : Value), its.toArray[i]? = some v → ∃ q, qs[i]? = some q ∧ v = .ref q.1 := fun i v e => by
      have e1 : its[i]? = some v := by simpa using e
      rw [eq1, List.getElem?_map] at e1
      cases z : qs[i]? with
      | none => rw [z] at e1; cases e1
      | some q0 => rw [z] at e1; exact ⟨q0, rfl, (Option.some.inj e1).symm⟩
    refine set_of (J := fun i h => ∃ L es ep t, FSet X.w h s.heap.objs.size L es ep t ∧ GotN qs i L) l (I.ok.hd hc) hl (fun h' e _ => ⟨[], #[], 0, _, fset_empty e, ⟨(fun q hq => nomatch hq), (fun q hq => by simp at hq), Nat.le_refl _⟩⟩) ⟨fun i h h' j k ol => ?_, fun i v s' E Q' hi hv j ol q' => ?_⟩ fun h' tk j ol => ?_
    · obtain ⟨L, es, ep, t, R, g⟩ := j
      exact ⟨L, es, ep, t, R.mv k fun q hq => (eq3 q (List.mem_of_mem_take (g.sub q hq))).1.keep ol, g⟩
    · obtain ⟨q0, e1, rfl⟩ := at_ i v hv
      obtain ⟨L, es, ep, t, R, g⟩ := j
      have fx : FlatAt s'.heap q0.2 q0.1 := (eq3 q0 (List.mem_of_getElem? e1)).1.keep ol
      unfold setAdd
      have hi2 : i < qs.length := (List.getElem?_eq_some_iff.mp e1).1
      have hu2 : X.A.in1.in1.in1.units + 8 < cLine := by show X.A.units + 1 + 1 + 1 + 8 < cLine; omega
      refine wpAny_holding (wpAny_bind ((nestedKind X.prog X.w).pyHash hu2 fx.kind ?_))
      refine addOne (s := { s' with toks := s'.toks + q0.2.draws }) R fx hu2 (by have := g.len; omega) fun r h' L' es' ep' t' sb R' c1 c2 => q' r h' _ (Nat.le_add_right _ _) sb ⟨L', es', ep', t', R', got_next g e1 c1 c2⟩
    · obtain ⟨L, es, ep, t, R, g⟩ := j
      have hz : its.toArray.size = qs.length := by rw [List.size_toArray, lq]
      rw [hz] at g
      have gs := g.sub
      have ga := g.all
      rw [List.take_length] at gs ga
      obtain ⟨o, o1, o2, o3⟩ := R.obj
      have sz := ents_size R.ents
      refine q _ _ (I.kept ol) ⟨o, es, ep, t, L.map fun q => V.ref q.1, L.map fun q => nkD q.2, o1, o2, o3, R.fit, by rw [sz]; have := R.lt; unfold scanBound; omega, R.tb.ris, R.ldd, ?_, reps_of fun q hq => (eq3 q (gs q hq)).2, ?_⟩
      · rw [R.ents, List.map_map]
        exact vals_refs L
      · have sp := ded_spec (ks.map nkD) (fun x hx y hy => by
          obtain ⟨a, _, rfl⟩ := List.mem_map.mp hx
          obtain ⟨b, _, rfl⟩ := List.mem_map.mp hy
          exact eqv_nkD a b)
        have e2 : (L.map fun q => nkD q.2) = (L.map (·.2)).map nkD := by rw [List.map_map]; rfl
        rw [e2]
        refine (List.perm_ext_iff_of_nodup (nodup_inj (fun a b e => nkD_inj e) R.dis) sp.1).mpr fun d => ?_
        rw [sp.2, eq2]
        constructor
        · intro z
          obtain ⟨k, hk, e⟩ := List.mem_map.mp z
          obtain ⟨q0, hq0, e'⟩ := List.mem_map.mp hk
          exact List.mem_map.mpr ⟨k, List.mem_map.mpr ⟨q0, gs q0 hq0, e'⟩, e⟩
        · intro z
          obtain ⟨k, hk, e⟩ := List.mem_map.mp z
          obtain ⟨q0, hq0, e'⟩ := List.mem_map.mp hk
          exact List.mem_map.mpr ⟨k, e' ▸ ga q0 hq0, e⟩
end
end G
/-! HJ: len(set(xs)), sorted(set(xs)) as expressions. -/
namespace G
open PySem PySem.Spec PyProof.Rows L2
/-! ### the order of data is total -/
theorem dlt_trans {a b c : PyData} (h1 : PySem.W.dataLt a b = true) (h2 : PySem.W.dataLt b c = true) : PySem.W.dataLt a c = true := PyProof.Rows.lex_trans _ _ _ h1 h2
theorem dlt_neg {a b c : PyData} (h : PySem.W.dataLt a c = true) : PySem.W.dataLt a b = true ∨ PySem.W.dataLt b c = true := PyProof.Rows.lex_negTrans _ _ _ h
theorem srt_totalD : PySem.W.TotalLe srtLe where
  trans := fun a b c h1 h2 => by
    show (!PySem.W.dataLt c a) = true
    have e1 : PySem.W.dataLt b a = false := by have z : (!PySem.W.dataLt b a) = true := h1; simpa using z
    have e2 : PySem.W.dataLt c b = false := by have z : (!PySem.W.dataLt c b) = true := h2; simpa using z
    cases q : PySem.W.dataLt c a with
    | false => rfl
    | true =>
      rcases dlt_neg (b := b) q with z | z
      · rw [z] at e2; cases e2
      · rw [z] at e1; cases e1
  total := fun a b => by
    show (!PySem.W.dataLt b a) = true ∨ (!PySem.W.dataLt a b) = true
    cases q : PySem.W.dataLt b a with
    | false => exact .inl rfl
    | true =>
      cases q2 : PySem.W.dataLt a b with
      | false => exact .inr rfl
      | true =>
        have z := dlt_trans q q2
        rw [show PySem.W.dataLt b b = false from PyProof.Rows.lex_irrefl _] at z
        cases z
/-- no two in one place -/
def antiB (ds : List PyData) : Bool := ds.all fun x => ds.all fun y => !(srtLe x y && srtLe y x) || PyData.eqv x y
theorem sort_perm {xs ys : List PyData} (p : xs.Perm ys) (an : ∀ x ∈ xs, ∀ y ∈ xs, srtLe x y = true → srtLe y x = true → x = y) : xs.mergeSort srtLe = ys.mergeSort srtLe := by
  have p2 : (xs.mergeSort srtLe).Perm (ys.mergeSort srtLe) := (List.mergeSort_perm xs srtLe).trans (p.trans (List.mergeSort_perm ys srtLe).symm)
  refine List.Perm.eq_of_pairwise (fun a b ha hb h1 h2 => an a ((List.mergeSort_perm xs srtLe).mem_iff.mp ha) b (p.mem_iff.mpr ((List.mergeSort_perm ys srtLe).mem_iff.mp hb)) h1 h2) (PySem.W.sort_pairwise srt_totalD xs) (PySem.W.sort_pairwise srt_totalD ys) p2
def dSortSet : List PyData → Option PyData
  | [y] => match seqD y with
    | some (_, ds) => if (setOk ds && sortOk (dedD ds) && antiB (dedD ds)) = true then some (.list ((dedD ds).mergeSort srtLe)) else none
    | none => none
  | _ => none
def dLenSet : List PyData → Option PyData
  | [y] => match seqD y with
    | some (_, ds) => if setOk ds = true then some (.int (dedD ds).length) else none
    | none => none
  | _ => none
theorem setOk_eqv {ds : List PyData} (h : setOk ds = true) : ∀ x ∈ ds, ∀ y ∈ ds, PyData.eqv x y = true ↔ x = y := by
  unfold setOk at h
  rw [Bool.and_eq_true, Bool.or_eq_true] at h
  intro x hx y hy
  rcases h.2 with z | z
  · obtain ⟨zs, e⟩ := strs_nk z
    subst e
    obtain ⟨a, _, rfl⟩ := List.mem_map.mp hx
    obtain ⟨b, _, rfl⟩ := List.mem_map.mp hy
    exact eqv_nkD (.text a) (.text b)
  · obtain ⟨ks, e, _⟩ := flats_nk z
    subst e
    obtain ⟨a, _, rfl⟩ := List.mem_map.mp hx
    obtain ⟨b, _, rfl⟩ := List.mem_map.mp hy
    exact eqv_nkD a b
theorem sortOk_perm {xs ys : List PyData} (p : xs.Perm ys) (h : sortOk xs = true) : sortOk ys = true := by
  have m : ∀ {q : PyData → Bool}, xs.all q = true → ys.all q = true := fun {q} h => List.all_eq_true.mpr fun x hx => List.all_eq_true.mp h x (p.mem_iff.mpr hx)
  unfold sortOk at h ⊢
  simp only [Bool.and_eq_true, Bool.or_eq_true, decide_eq_true_eq] at h ⊢
  obtain ⟨⟨⟨h1, h2⟩, h3⟩, h4⟩ := h
  refine ⟨⟨⟨by rw [← p.length_eq]; exact h1, ?_⟩, h3.imp m m⟩, m h4⟩
  unfold allAlike at h2 ⊢
  exact m (List.all_eq_true.mpr fun x hx => m (List.all_eq_true.mp h2 x hx))
section
variable {X : Cx} {pins : List (Addr × Obj)} {σ : L2.St} {H : Hp} {s : Shared} {ok : Addr → Prop}
/-- what is gathered, in whatever order -/
theorem perm_rep {K : PySem.W.Frag} {out us : List Value} (p : out.Perm us) : ∀ {ws : List V} {ds : List PyData}, Vals ws us → RepL K H ok ws ds → ∃ ws' ds', Vals ws' out ∧ RepL K H ok ws' ds' ∧ ds'.Perm ds := by
  induction p with
  | nil => intro ws ds v r; exact ⟨ws, ds, v, r, List.Perm.refl _⟩
  | cons x p ih =>
    intro ws ds v r
    cases v with
    | cons v0 v1 =>
      cases r with
      | cons r0 r1 =>
        obtain ⟨ws', ds', a, b, c⟩ := ih v1 r1
        exact ⟨_, _, .cons v0 a, .cons r0 b, c.cons _⟩
  | swap x y l =>
    intro ws ds v r
    cases v with
    | cons v0 v1 =>
      cases v1 with
      | cons v1 v2 =>
        cases r with
        | cons r0 r1 =>
          cases r1 with
          | cons r1 r2 => exact ⟨_, _, .cons v1 (.cons v0 v2), .cons r1 (.cons r0 r2), List.Perm.swap _ _ _⟩
  | trans _ _ ih1 ih2 =>
    intro ws ds v r
    obtain ⟨ws1, ds1, a1, b1, c1⟩ := ih2 v r
    obtain ⟨ws2, ds2, a2, b2, c2⟩ := ih1 a1 b1
    exact ⟨ws2, ds2, a2, b2, c2.trans c1⟩
/-- sorted of what is gathered in some order -/
theorem sorted_any {v : Value} {Q : VK} (hu : X.A.units + 64 < cLine) (I : Inv X pins σ H s)
    (hcol : wpAny (model X.prog X.w) X.A.in1 (collect v) (fun vs s1 => ∃ H1 ok1 ws ds, sortOk ds = true ∧ Inv X pins σ H1 s1 ∧ Vals ws vs ∧ RepL X.K H1 ok1 ws ds ∧ ∀ ws' p, H1 p = none → RepL X.K H1 ok1 ws' (ds.mergeSort srtLe) → Q (.ref p) (upd H1 p (.lst ws'))) X.xe s) :
    wpAny (model X.prog X.w) X.A (call (.builtin "sorted") [v]) (EP X pins σ Q) X.xe s := by
  refine Calls.call_function_entry PyProof.Rows.kind_sorted PyProof.Rows.plain_sorted PyProof.Rows.entry_sorted (PyProof.Rows.args_sorted1 _) ?_
  unfold Builtin.«sorted»
  refine wpAny_bind (m := checkCount "sorted" 1 1 _) (wpAny_pure ?_)
  refine wpAny_bind (thn hcol fun vs s1 hq => ?_)
  obtain ⟨H1, ok1, ws, ds, hok, I1, rv, rl, q⟩ := hq
  unfold sortOk at hok
  simp only [Bool.and_eq_true] at hok
  obtain ⟨⟨⟨h1, h2⟩, h3⟩, h4⟩ := hok
  have hl := of_decide_eq_true h1
  have lv : vs.length = ds.length := by rw [← rv.length, rl.length]
  have hz : vs.length ≤ sizeLine := by rw [sizeLine_eq]; omega
  refine wpAny_bind (wpAny_newList ?_ hz)
  have hoL : (s1.heap.push (seqObj "list" vs.toArray 0)).get? s1.heap.objs.size = some (seqObj "list" vs.toArray 0) := Heap.get?_push_size _ rfl
  show wpAny _ _ _ _ _ { s1 with heap := s1.heap.push (seqObj "list" vs.toArray 0) }
  have er : PySem.W.EachIs (fun v d => ∃ as, Reads (PySem.W.sortingHeap (s1.heap.push (seqObj "list" vs.toArray 0)) s1.heap.objs.size vs) v d as) vs ds := by
    refine (each_of rv rl).mono fun v d ⟨w, r1, r2⟩ => ?_
    obtain ⟨as, r⟩ := Dp.reads I1 d w v r2.dp r1
    exact ⟨as, PyProof.Rows.Reads.keeps (fun b o e => PySem.W.sortingHeap_old (Nat.ne_of_lt (Heap.lt_size e)) (Heap.get?_push_of_some _ e)) r⟩
  have S := PySem.W.SortsAt.data (prog := X.prog) (w := X.w) (A := X.A.in1.in1) (s := { s1 with heap := PySem.W.sortingHeap (s1.heap.push (seqObj "list" vs.toArray 0)) s1.heap.objs.size vs }) er (allAlike_of h2) (sortable_of h3) (fun d hd => by
    have e := of_decide_eq_true (List.all_eq_true.mp h4 d hd)
    show X.A.units + 1 + 1 + d.depth < cLine
    omega)
  refine wpAny_bind (wpAny_holding (wpAny_call_entry PyProof.Rows.slot_list_sort ⟨_, hoL, rfl⟩ PyProof.Rows.entry_list_sort
    (PySem.W.list_sort_vals (s := { s1 with heap := s1.heap.push (seqObj "list" vs.toArray 0) }) hoL S hz ⟨_, rfl, ?_⟩) (PyProof.Rows.args_list_sort _)))
  have eo : PySem.W.EachIs (fun v d => ∃ w, RelV w v ∧ Rep X.K H1 ok1 w d) (PySem.W.sortVals (PySem.W.dataKind (PySem.W.sortingHeap (s1.heap.push (seqObj "list" vs.toArray 0)) s1.heap.objs.size vs) ds) false vs vs) (ds.mergeSort srtLe) := by
    have z := PySem.W.sortVals_data (enc := fun d : PyData => d) false (each_of rv rl) er (by simpa using allAlike_of h2)
    simpa using z
  obtain ⟨ws', g1, g2⟩ := of_each eo
  obtain ⟨e', he'⟩ := PyProof.Rows.sortedHeap_at (vs := vs) (out := (PySem.W.sortVals (PySem.W.dataKind (PySem.W.sortingHeap (s1.heap.push (seqObj "list" vs.toArray 0)) s1.heap.objs.size vs) ds) false vs vs).toArray) hoL
  have hlen : ws'.length ≤ sizeLine := by
    rw [g2.length, List.length_mergeSort]
    rw [sizeLine_eq]; omega
  refine wpAny_pure ⟨_, rfl, .ref s1.heap.objs.size, upd H1 s1.heap.objs.size (.lst ws'), I1.laid (t' := s1.toks) (fun b u e => ?_) (Nat.le_refl _)
    (show ObjOk X.prog X.w _ _ _ (.lst ws') from ⟨hlen, _, e', g1, he'⟩), rfl, q _ _ (I1.hok.fresh (Nat.le_refl _)) g2⟩
  have hb : b < s1.heap.objs.size := Heap.lt_size e
  rw [PyProof.Rows.sortedHeap_old (Nat.ne_of_lt hb) (by rw [size_push']; exact Nat.lt_succ_of_lt hb)]
  exact Heap.get?_push_of_some _ e
end
/-! ### the expressions -/
section
variable {X : Cx} {x : XW} {a : Expr} {f : Fr → Res AV} {p p2 q pos : Pos}
/-- one argument's reading, of a call by what is read -/
theorem tE_set {sem : List PyData → Option PyData} {σ : L2.St} {H : Hp} {Q : VK} (h : tE (pX X) x (xB1 sem (xCons f xNil)) σ H Q) : tE (pX X) x f σ H fun v H1 => rCall X.K sem [v] H1 Q := by
  have z := tA_head (tA_call h)
  obtain ⟨c, fr, ad, F, o⟩ := z
  exact ⟨c, fr, ad, F, o.mono fun av fr1 ad1 H1 F1 m1 o1 v rv => tA_none (o1 v rv)⟩
theorem ae_lenSet (hc : X.calm = true) (hu : X.A.units + 64 < cLine) (hg : Gl X "len") (hm : X.mg "len" = none) (hg2 : Gl X "set") (hm2 : X.mg "set" = none) (ha : AE X x a f)
    (na : starEach [a] X.env = (false, eval a X.env) :: starEach [] X.env := by rfl) : AE X x (.Call (.Name "len" p) [.Call (.Name "set" p2) [a] [] q] [] pos) (xB1 dLenSet (xCons f xNil)) := by
  refine ⟨fun pins s σ H Q I h => ?_⟩
  refine Call_ (ld_blt I hg hm boot_len ?_)
  refine PyProof.Rows.callWith_builtin1 (PyProof.Rows.args_cons ?_ rfl) rfl rfl
  refine Call_ (ld_blt I hg2 hm2 boot_set ?_)
  refine PyProof.Rows.callWith_type1 (PyProof.Rows.args_cons (thn (ha.run pins s σ H _ I (tE_set h)) fun v s1 ⟨y, H1, I1, r1, q1⟩ => PyProof.Rows.args_nil ?_) na) na rfl
  obtain ⟨ok, ds, r, hok, hx, e, q2⟩ := q1
  obtain ⟨d, rfl⟩ : ∃ d, ds = [d] := by cases hx with | cons _ t => cases t; exact ⟨_, rfl⟩
  simp only [dLenSet] at e
  cases z : seqD d with
  | none => rw [z] at e; cases e
  | some w =>
    obtain ⟨l, ys⟩ := w
    rw [z] at e
    simp only at e
    split at e
    · rename_i hs
      cases e
      obtain ⟨v0, e0, rb⟩ := hx.one
      cases e0
      obtain ⟨la, xs, rfl, h1, h2, hz⟩ := seqB_rep rb z
      cases r1
      refine make_set hc hu I1 h1 h2 hs fun S s' I2 M => ?_
      refine PyProof.Rows.args_nil ?_
      obtain ⟨o, es, ep, t, ws, ds', e0, e1, e2, e3, e4, _, _, e7, e8, e9⟩ := M.ex
      have sz : es.size = (dedD ys).length := by
        rw [← e9.length_eq, ← e8.length, e7.length, List.length_map, Array.length_toList]
      refine call_len_set e0 e1 e2 e3 (by unfold scanBound at e4; omega) ⟨.int (dedD ys).length, H1, I2.tok _, ⟨_, by rw [sz]⟩, q2 _ _ Grow.refl (.int _)⟩
    · cases e
theorem ae_sortSet (hc : X.calm = true) (hu : X.A.units + 64 < cLine) (hg : Gl X "sorted") (hm : X.mg "sorted" = none) (hg2 : Gl X "set") (hm2 : X.mg "set" = none) (ha : AE X x a f)
    (na : starEach [a] X.env = (false, eval a X.env) :: starEach [] X.env := by rfl) : AE X x (.Call (.Name "sorted" p) [.Call (.Name "set" p2) [a] [] q] [] pos) (xB1 dSortSet (xCons f xNil)) := by
  refine ⟨fun pins s σ H Q I h => ?_⟩
  refine Call_ (ld_blt I hg hm boot_sorted' ?_)
  refine PyProof.Rows.callWith_builtin1 (PyProof.Rows.args_cons ?_ rfl) rfl rfl
  refine Call_ (ld_blt I hg2 hm2 boot_set ?_)
  refine PyProof.Rows.callWith_type1 (PyProof.Rows.args_cons (thn (ha.run pins s σ H _ I (tE_set h)) fun v s1 ⟨y, H1, I1, r1, q1⟩ => PyProof.Rows.args_nil ?_) na) na rfl
  obtain ⟨ok, ds, r, hok, hx, e, q2⟩ := q1
  obtain ⟨d, rfl⟩ : ∃ d, ds = [d] := by cases hx with | cons _ t => cases t; exact ⟨_, rfl⟩
  simp only [dSortSet] at e
  cases z : seqD d with
  | none => rw [z] at e; cases e
  | some w =>
    obtain ⟨l, ys⟩ := w
    rw [z] at e
    simp only at e
    split at e
    · rename_i hs
      cases e
      rw [Bool.and_eq_true, Bool.and_eq_true] at hs
      obtain ⟨⟨hs1, hs2⟩, hs3⟩ := hs
      obtain ⟨v0, e0, rb⟩ := hx.one
      cases e0
      obtain ⟨la, xs, rfl, h1, h2, hz⟩ := seqB_rep rb z
      cases r1
      refine make_set hc hu I1 h1 h2 hs1 fun S s' I2 M => ?_
      refine PyProof.Rows.args_nil ?_
      obtain ⟨o, es, ep, t, ws, ds', e0, e1, e2, e3, e4, e5, e6, e7, e8, e9⟩ := M.ex
      refine sorted_any hu I2 (collect_set (A := X.A.in1) (by show X.A.handled = none; exact I1.ok.hd hc) ⟨o, e0, e1.1, e2⟩ e3 e4 e5 e6 fun s3 out k3 _ g3 o3 pm => ?_)
      obtain ⟨ws3, ds3, a1, a2, a3⟩ := perm_rep pm e7 e8
      have I3 : Inv X pins σ H1 s3 := by
        have J : Inv X pins σ H1 { s' with heap := s3.heap, gens := s3.gens, drawn := s3.drawn, toks := s3.toks } := I2.call (ch := []) (Un.kept k3) (I2.hok.kept k3) (by rw [g3]; exact I2.bare) (fun _ z => nomatch z)
        have e : s3 = { s' with heap := s3.heap, gens := s3.gens, drawn := s3.drawn, toks := s3.toks } := by
          cases s3
          cases s'
          cases o3
          rfl
        rw [e]; exact J
      have pm2 := a3.trans e9
      refine ⟨H1, ok, ws3, ds3, sortOk_perm pm2.symm hs2, I3, a1, a2, fun ws' p0 hp rl => ?_⟩
      have sp := ded_spec ys (setOk_eqv hs1)
      have an : ∀ x ∈ ds3, ∀ y ∈ ds3, srtLe x y = true → srtLe y x = true → x = y := fun x hx y hy u1 u2 => by
        have mx := pm2.mem_iff.mp hx
        have my := pm2.mem_iff.mp hy
        have z := List.all_eq_true.mp (List.all_eq_true.mp hs3 x mx) y my
        rw [u1, u2] at z
        exact (setOk_eqv hs1 x ((sp.2 x).1 mx) y ((sp.2 y).1 my)).1 (by simpa using z)
      rw [sort_perm pm2 an] at rl
      refine q2 _ _ (Grow.new hp) (.lst (hok p0 hp) upd_same ?_ (RepL.keep (Grow.new hp).keep rl))
      rw [List.length_mergeSort]
      unfold sortOk at hs2
      simp only [Bool.and_eq_true, decide_eq_true_eq] at hs2
      have := hs2.1.1.1
      rw [sizeLine_eq]; omega
    · cases e
end
end G
/-! HK: f(..).append(x): what a call hands out is written and dropped. -/
namespace G
open PySem PySem.Spec PyProof.Rows L2
@[simp] def sAppE (f g : Fr → Res AV) : Fr → SRes := fun fr => (f fr).toS fun a fr0 => match a with
  | .cel k => (match fr0.cells[k]? with
    | some (.lst _) => (g fr0).toS fun b fr1 => (match b, fr1.cells[k]? with
      | .dat y, some (.lst xs) => if xs.length < 1000000 then .nx (fr1.putc k (.lst (xs ++ [y]))).gc else .err
      | _, _ => .err)
    | _ => .err)
  | _ => .err
variable {X : Cx} {x : XW} {e a : Expr} {f g : Fr → Res AV} {pos : Pos}
theorem as_appE {p2 p3 : Pos} (he : AE X x e f) (ha : AE X x a g) (hbase : attributeBase e "append" X.env (eval e X.env) = eval e X.env := by rfl)
    (hst : starEach [a] X.env = (false, eval a X.env) :: starEach [] X.env := by rfl)
    (hfew : ((backTo p3 (starEach [a] X.env)).all (fun z => !z.1) && (backToKw p3 (keywordEach [] X.env)).all (fun z => z.1.isSome) && decide ([a].length + ([] : List Keyword).length + (if ([] : List Keyword).isEmpty then 0 else 1) < 30)) = true := by rfl)
    (hline : (p2.endLine == p3.line) = true := by rfl)
    (hs : swapsWith (.Call (.Attribute e "append" p2) [a] [] p3) none pos.line X.env = pure false := by rfl) : AS X x (.Expr (.Call (.Attribute e "append" p2) [a] [] p3) pos) (sAppE f g) := by
  refine (ps_expr (pe_bm PySem.F.plainAttrs_list PySem.F.slot_list_append PySem.F.type_list_append mt_append he (pa_cons ha pa_nil hst) hbase hfew hline hst) hs).imp fun D σ H ⟨c, fr, ad, F, o⟩ => ?_
  unfold sAppE at o
  refine ⟨c, fr, ad, F, (SOut.of F o).mono fun av fr0 ad0 H0 F0 m0 o0 v rv => ?_⟩
  cases av with
  | cel k =>
    obtain ⟨l, rfl, hl⟩ := rv
    obtain ⟨cl, hc, hcl⟩ := F0.cel k l hl
    simp only [hc] at o0
    cases cl with
    | dct tp kvs => exact o0.elim
    | gone => exact o0.elim
    | lst ds =>
      simp only at o0
      obtain ⟨xs0, h0, _⟩ := hcl
      refine ⟨.inl ⟨rfl, xs0, SqL.of h0⟩, c, fr0, ad0, F0, ?_⟩
      refine (SOut.of F0 o0).mono fun bv fr1 ad1 H1 F1 m1 o1 w rw_ => ?_
      cases bv with
      | dat y =>
        cases q2 : fr1.cells[k]? with
        | none => simp only [q2] at o1; exact o1.elim
        | some cl1 =>
          cases cl1 with
          | lst xs =>
            simp only [q2] at o1
            split at o1
            · rename_i hz
              have e1 := m1.pre k _ hl
              obtain ⟨vs, h3, hz3, h4⟩ := cell_lst F1 e1 q2
              have e2 := h4.length
              refine ⟨l, vs, w, rfl, rfl, h3, by rw [sizeLine_eq]; omega, ?_⟩
              have m := List.mem_of_getElem? e1
              obtain ⟨ad', F2⟩ := FR.gc (F1.putc (cl := .lst (xs ++ [y])) e1 (wr_t h3) ⟨_, upd_same, by rw [List.length_append]; exact sz6 (by simp; omega), RepL.append (h4.keep (wr_k m h3)) (.cons (Rep.keep (wr_k m h3) rw_) .nil)⟩)
              exact o1 _ _ _ F2
            · exact o1.elim
          | _ => simp only [q2] at o1; exact o1.elim
      | _ => exact o1.elim
  | _ => exact o0.elim
end G
/-! HL: a cell that is read as data while a test is asked, or a value without lists. -/
namespace G
open PySem PySem.Spec PyProof.Rows L2
section
variable {p : Par} {c : Ent} {fr fr2 : Fr} {ad ad2 : List (Option Addr)} {σ σ2 : L2.St} {H H' : Hp}
theorem FR.frzS (F : FR p c fr ad σ H) {i : Nat} (h : fr.frz i = some fr2) : FR p c fr2 (ad.set i none) σ H ∧ c.W0.length ≤ i := by
  unfold Fr.frz at h
  split at h
  rotate_left
  · cases h
  rename_i hk
  rw [F.bs] at hk
  cases q1 : fr.cells[i]? with
  | none => rw [q1] at h; cases h
  | some cl =>
    rw [q1] at h
    simp only at h
    cases q2 : celv cl with
    | none => rw [q2] at h; cases h
    | some av =>
      rw [q2] at h
      cases h
      refine ⟨?_, hk⟩
      have hi : i < ad.length := by
        rw [← F.clen]
        rcases Nat.lt_or_ge i fr.cells.length with z | z
        · exact z
        · rw [List.getElem?_eq_none z] at q1; cases q1
      have mono : ∀ b, okP c ad b → okP c (ad.set i none) b := fun b hb => ⟨hb.1, fun hm => by
        obtain ⟨j, e⟩ := mem_at hm
        by_cases hj : i = j
        · subst hj; rw [List.getElem?_set_self hi] at e; cases e
        · rw [List.getElem?_set_ne hj] at e; exact hb.2 (List.mem_of_getElem? e)⟩
      have okA : ∀ a, ad[i]? = some (some a) → okP c (ad.set i none) a := fun a ha => by
        refine ⟨⟨.inl ?_, fun hp => (F.pr a hp).1 (List.mem_of_getElem? ha)⟩, fun hm => ?_⟩
        · rcases F.adw a (List.mem_of_getElem? ha) with z | z
          · obtain ⟨j, e⟩ := mem_at z
            have := F.nd j i a (F.sub j a e) ha
            have hj : j < c.W0.length := by
              rcases Nat.lt_or_ge j c.W0.length with y | y
              · exact y
              · rw [List.getElem?_eq_none y] at e; cases e
            omega
          · exact z
        · obtain ⟨j, e⟩ := mem_at hm
          by_cases hj : i = j
          · subst hj; rw [List.getElem?_set_self hi] at e; cases e
          · rw [List.getElem?_set_ne hj] at e; exact hj (F.nd i j a ha e)
      have repA : ∀ a, ad[i]? = some (some a) → RepA p H (okP c (ad.set i none)) (ad.set i none) (.ref a) av := fun a ha => by
        obtain ⟨cl', h1, h2⟩ := F.cel i a ha
        rw [q1] at h1; cases h1
        cases cl with
        | lst ds =>
          cases q2
          obtain ⟨xs, h3, hz, h4⟩ := h2
          exact .lst (okA a ha) h3 hz (h4.mono mono)
        | dct tp kvs =>
          cases q2
          exact ⟨a, rfl, okA a ha, (DctAt.mono mono h2).r⟩
        | gone => exact h2.elim
      refine ⟨by simp [F.len], fun j bv e => ?_, by simp [F.clen], fun j b e => ?_, fun j k b e1 e2 => ?_, F.old, fun j b e => ?_, fun b hm => ?_, fun g hg => ⟨(F.gh g hg).1, ?_⟩, fun b hb => ⟨fun hm => ?_, (F.pr b hb).2⟩, F.bs⟩
      · rw [List.getElem?_map] at e
        cases q3 : fr.vars[j]? with
        | none => rw [q3] at e; cases e
        | some w =>
          rw [q3] at e
          have e' : frzv i av w = some bv := Option.some.inj e
          cases w with
          | none => cases e'
          | some w =>
            obtain ⟨v, h1, h2⟩ := F.var j w q3
            refine ⟨v, h1, ?_⟩
            cases w with
            | dat y => cases e'; exact Rep.mono mono h2
            | dct tp kvs =>
              cases e'
              obtain ⟨b, hb, h3, h4⟩ := h2
              exact ⟨b, hb, mono b h3, h4.mono mono⟩
            | scr ns => cases e'; exact h2
            | brd rms cks k =>
              obtain ⟨b, u0, rfl, hb, d, h3⟩ := h2
              have e'' : (if k = i then none else some (AV.brd rms cks k)) = some bv := e'
              split at e''
              · cases e''
              · rename_i hki
                cases e''
                exact ⟨b, u0, rfl, mono b hb, d.mono mono, by rw [List.getElem?_set_ne (Ne.symm hki)]; exact h3⟩
            | cel k =>
              obtain ⟨b, rfl, h3⟩ := h2
              have e'' : (if k = i then some av else some (.cel k)) = some bv := e'
              split at e''
              · rename_i hki
                subst hki
                cases e''
                exact repA b h3
              · rename_i hki
                cases e''
                exact ⟨b, rfl, by rw [List.getElem?_set_ne (Ne.symm hki)]; exact h3⟩
      · by_cases hj : i = j
        · subst hj; rw [List.getElem?_set_self hi] at e; cases e
        · rw [List.getElem?_set_ne hj] at e
          obtain ⟨cl', h1, h2⟩ := F.cel j b e
          refine ⟨cl', by rw [List.getElem?_set_ne hj]; exact h1, ?_⟩
          cases cl' with
          | lst ds =>
            obtain ⟨xs, h3, hz, h4⟩ := h2
            exact ⟨xs, h3, hz, h4.mono mono⟩
          | dct tp kvs => exact DctAt.mono mono h2
          | gone => exact h2
      · by_cases hj : i = j
        · subst hj; rw [List.getElem?_set_self hi] at e1; cases e1
        · by_cases hk : i = k
          · subst hk; rw [List.getElem?_set_self hi] at e2; cases e2
          · rw [List.getElem?_set_ne hj] at e1
            rw [List.getElem?_set_ne hk] at e2
            exact F.nd j k b e1 e2
      · have hj : i ≠ j := fun z => by
          subst z
          rw [List.getElem?_eq_none hk] at e; cases e
        rw [List.getElem?_set_ne hj]; exact F.sub j b e
      · obtain ⟨j, e⟩ := mem_at hm
        by_cases hj : i = j
        · subst hj; rw [List.getElem?_set_self hi] at e; cases e
        · rw [List.getElem?_set_ne hj] at e; exact F.adw b (List.mem_of_getElem? e)
      · obtain ⟨h1, h2⟩ := F.gh g hg
        revert h1 h2
        cases g.2 with
        | dat y => exact fun _ h2 => Rep.mono mono h2
        | dct tp kvs => exact fun _ ⟨b, hb, h3, h4⟩ => ⟨b, hb, mono b h3, h4.mono mono⟩
        | cel k => exact fun h1 _ => nomatch h1
        | scr ns => exact fun h1 _ => nomatch h1
        | brd _ _ _ => exact fun h1 _ => nomatch h1
      · obtain ⟨j, e⟩ := mem_at hm
        by_cases hj : i = j
        · subst hj; rw [List.getElem?_set_self hi] at e; cases e
        · rw [List.getElem?_set_ne hj] at e; exact (F.pr b hb).1 (List.mem_of_getElem? e)
/-- no lists within, or nothing -/
def noLG : Cell → Bool
  | .gone => true
  | cl => noLC cl
theorem set_eq {α : Type} {l : List α} {i j : Nat} {x y : α} (h : (l.set i x)[j]? = some y) : (i = j ∧ y = x) ∨ (i ≠ j ∧ l[j]? = some y) := by
  by_cases e : i = j
  · subst e
    refine .inl ⟨rfl, ?_⟩
    rw [List.getElem?_set] at h
    simp only [if_true] at h
    split at h
    · exact (Option.some.inj h).symm
    · cases h
  · exact .inr ⟨e, by rw [List.getElem?_set_ne e] at h; exact h⟩
theorem mem_set {α : Type} {l : List α} {i : Nat} {x y : α} (h : y ∈ l.set i x) : y = x ∨ y ∈ l := by
  obtain ⟨j, e⟩ := mem_at h
  rcases set_eq e with ⟨_, z⟩ | ⟨_, z⟩
  · exact .inl z
  · exact .inr (List.mem_of_getElem? z)
/-- the cell back, as it was -/
theorem FR.thaw (F : FR p c fr ad σ H) {k : Nat} {l : Addr} {cl : Cell} (e : ad[k]? = some (some l)) (q : fr.cells[k]? = some cl) (hk : c.W0.length ≤ k) (F2 : FR p c fr2 ad2 σ2 H') (m : Mv H (ad.set k none) H' ad2) (hc : fr2.cells.all noLG = true) :
    FR p c ⟨fr.vars, fr2.cells.set k cl, fr.base⟩ (ad2.set k (some l)) σ H' ∧ Mv H ad H' (ad2.set k (some l)) := by
  have lk : k < ad.length := lt_of_at e
  have l1 : ∀ b, some b ∈ ad.set k none → some b ∈ ad := fun b h => (mem_set h).elim (fun z => by cases z) id
  have nl1 : some l ∉ ad.set k none := fun h => by
    obtain ⟨j, ej⟩ := mem_at h
    rcases set_eq ej with ⟨_, z⟩ | ⟨n, z⟩
    · cases z
    · exact n (F.nd k j l e z)
  have lk2 : k < ad2.length := lt_of_at (m.pre k none (by rw [List.getElem?_set_self lk]))
  obtain ⟨o, ho, _⟩ := F.track (List.mem_of_getElem? e)
  have nl2 : some l ∉ ad2 := fun h => by
    rcases m.new l h with z | z
    · exact nl1 z
    · rw [ho] at z; cases z
  have hl : ∀ o, H l = some o → H' l = some o := fun o z => m.keep l o z nl1
  have M : Mv H ad H' (ad2.set k (some l)) := ⟨fun b o z n => m.keep b o z fun h => n (l1 b h), fun i x z => by
      by_cases h : k = i
      · subst h
        rw [e] at z; cases z
        rw [List.getElem?_set_self lk2]
      · rw [List.getElem?_set_ne h]
        exact m.pre i x (by rw [List.getElem?_set_ne h]; exact z), fun a h => by
      rcases mem_set h with z | z
      · cases z; exact .inl (List.mem_of_getElem? e)
      · rcases m.new a z with y | y
        · exact .inl (l1 a y)
        · exact .inr y, m.there⟩
  refine ⟨⟨F.len, fun i av z => ?_, by rw [List.length_set, List.length_set]; exact F2.clen, fun i a z => ?_, fun i j a z1 z2 => ?_, F2.old, fun i a z => ?_, fun a z => ?_, fun g hg => ⟨(F.gh g hg).1, RepA.mv F M (F.gh g hg).2⟩, fun a ha => ⟨fun h => ?_, (F2.pr a ha).2⟩, F.bs⟩, M⟩
  · obtain ⟨v, h1, h2⟩ := F.var i av z
    exact ⟨v, h1, RepA.mv F M h2⟩
  · rcases set_eq z with ⟨h, y⟩ | ⟨h, y⟩
    · subst h
      cases y
      refine ⟨cl, by rw [List.getElem?_set_self (by rw [F2.clen]; exact lk2)], ?_⟩
      obtain ⟨cl0, h1, h2⟩ := F.cel k l e
      rw [q] at h1; cases h1
      cases cl with
      | lst ds =>
        obtain ⟨xs, y1, y2, y3⟩ := h2
        exact ⟨xs, hl _ y1, y2, y3.keep (M.kp F)⟩
      | dct tp kvs => exact DctAt.keep (M.kp F) hl h2
      | gone => exact h2
    · obtain ⟨cl2, h1, h2⟩ := F2.cel i a y
      have hg := List.all_eq_true.mp hc _ (List.mem_of_getElem? h1)
      refine ⟨cl2, by rw [List.getElem?_set_ne h]; exact h1, ?_⟩
      cases cl2 with
      | gone => exact h2.elim
      | lst ds => exact CellAt.any h2 hg
      | dct tp kvs => exact CellAt.any h2 hg
  · rcases set_eq z1 with ⟨h, y⟩ | ⟨h, y⟩
    · cases y
      rcases set_eq z2 with ⟨h', y'⟩ | ⟨h', y'⟩
      · omega
      · exact absurd (List.mem_of_getElem? y') nl2
    · rcases set_eq z2 with ⟨h', y'⟩ | ⟨h', y'⟩
      · cases y'
        exact absurd (List.mem_of_getElem? y) nl2
      · exact F2.nd i j a y y'
  · have hi : i < c.W0.length := lt_of_at z
    rw [List.getElem?_set_ne (by omega)]
    exact F2.sub i a z
  · rcases mem_set z with y | y
    · cases y; exact F.adw l (List.mem_of_getElem? e)
    · exact F2.adw a y
  · rcases mem_set h with y | y
    · cases y; exact (F.pr l ha).1 (List.mem_of_getElem? e)
    · exact (F2.pr a ha).1 y
end
/-- a test with a cell read as data -/
@[simp] def xLendT (i : Nat) (t : Fr → Res Bool) : Fr → Res Bool := fun fr => match fr.vars[i]? with
  | some (some (.cel k)) => (match fr.cells[k]? with
    | some cl => (match fr.frz k with
      | some fr1 => (match t fr1 with
        | .ok b fr2 => if fr2.cells.all noLG = true then .ok b ⟨fr.vars, fr2.cells.set k cl, fr.base⟩ else .err
        | _ => .err)
      | none => .err)
    | none => .err)
  | _ => t fr
/-- a value without lists -/
@[simp] def xLendV (i : Nat) (f : Fr → Res AV) : Fr → Res AV := fun fr => match fr.vars[i]? with
  | some (some (.cel k)) => (match fr.cells[k]? with
    | some cl => (match fr.frz k with
      | some fr1 => (match f fr1 with
        | .ok (.dat y) fr2 => if fr2.cells.all noLG = true ∧ noL y = true then .ok (.dat y) ⟨fr.vars, fr2.cells.set k cl, fr.base⟩ else .err
        | _ => .err)
      | none => .err)
    | none => .err)
  | _ => f fr
section
variable {X : Cx} {x : XW} {e : Expr} {t : Fr → Res Bool} {f : Fr → Res AV}
theorem lend_read (i : Nat) {σ : L2.St} {H : Hp} {Q : Bool → Hp → Prop} (h : tT (pX X) x (xLendT i t) σ H Q) : tT (pX X) x t σ H Q := by
  obtain ⟨c, fr, ad, F, o⟩ := h
  unfold xLendT at o
  cases q1 : fr.vars[i]? with
  | none => simp only [q1] at o; exact ⟨c, fr, ad, F, o⟩
  | some w =>
    cases w with
    | none => simp only [q1] at o; exact ⟨c, fr, ad, F, o⟩
    | some av =>
      cases av with
      | cel k =>
        simp only [q1] at o
        obtain ⟨v, _, l, _, hl⟩ := F.var i _ q1
        cases q2 : fr.cells[k]? with
        | none => rw [q2] at o; exact o.elim
        | some cl =>
          rw [q2] at o
          simp only at o
          · cases q3 : fr.frz k with
            | none => rw [q3] at o; exact o.elim
            | some fr1 =>
              rw [q3] at o
              simp only at o
              obtain ⟨F1, hk⟩ := F.frzS q3
              refine ⟨c, fr1, _, F1, ?_⟩
              cases q4 : t fr1 with
              | ok b fr2 =>
                rw [q4] at o
                simp only at o
                split at o
                · rename_i hc
                  intro ad2 H2 F2 m2
                  obtain ⟨F3, m3⟩ := F.thaw hl q2 hk F2 m2 hc
                  exact o _ _ F3 m3
                · exact o.elim
              | exc _ _ _ => rw [q4] at o; exact o.elim
              | err => rw [q4] at o; exact o.elim
      | dat _ => simp only [q1] at o; exact ⟨c, fr, ad, F, o⟩
      | dct _ _ => simp only [q1] at o; exact ⟨c, fr, ad, F, o⟩
      | scr _ => simp only [q1] at o; exact ⟨c, fr, ad, F, o⟩
      | brd _ _ _ => simp only [q1] at o; exact ⟨c, fr, ad, F, o⟩
theorem lendV_read (i : Nat) {σ : L2.St} {H : Hp} {Q : VK} (h : tE (pX X) x (xLendV i f) σ H Q) : tE (pX X) x f σ H Q := by
  obtain ⟨c, fr, ad, F, o⟩ := h
  unfold xLendV at o
  cases q1 : fr.vars[i]? with
  | none => simp only [q1] at o; exact ⟨c, fr, ad, F, o⟩
  | some w =>
    cases w with
    | none => simp only [q1] at o; exact ⟨c, fr, ad, F, o⟩
    | some av =>
      cases av with
      | cel k =>
        simp only [q1] at o
        obtain ⟨v, _, l, _, hl⟩ := F.var i _ q1
        cases q2 : fr.cells[k]? with
        | none => rw [q2] at o; exact o.elim
        | some cl =>
          rw [q2] at o
          simp only at o
          · cases q3 : fr.frz k with
            | none => rw [q3] at o; exact o.elim
            | some fr1 =>
              rw [q3] at o
              simp only at o
              obtain ⟨F1, hk⟩ := F.frzS q3
              refine ⟨c, fr1, _, F1, ?_⟩
              cases q4 : f fr1 with
              | ok b fr2 =>
                rw [q4] at o
                cases b with
                | dat y =>
                  simp only at o
                  split at o
                  · rename_i hc
                    intro ad2 H2 F2 m2 v rv
                    obtain ⟨F3, m3⟩ := F.thaw hl q2 hk F2 m2 hc.1
                    exact o _ _ F3 m3 v (Rep.any rv hc.2)
                  · exact o.elim
                | cel _ => exact o.elim
                | dct _ _ => exact o.elim
                | scr _ => exact o.elim
                | brd _ _ _ => exact o.elim
              | exc _ _ _ => rw [q4] at o; exact o.elim
              | err => rw [q4] at o; exact o.elim
      | dat _ => simp only [q1] at o; exact ⟨c, fr, ad, F, o⟩
      | dct _ _ => simp only [q1] at o; exact ⟨c, fr, ad, F, o⟩
      | scr _ => simp only [q1] at o; exact ⟨c, fr, ad, F, o⟩
      | brd _ _ _ => simp only [q1] at o; exact ⟨c, fr, ad, F, o⟩
theorem at_lend (i : Nat) (h : AT X x e t) : AT X x e (xLendT i t) := h.imp fun _ _ _ z => lend_read i z
theorem ae_lend (i : Nat) (h : AE X x e f) : AE X x e (xLendV i f) := h.imp fun _ _ _ z => lendV_read i z
end
end G
/-! HM: walks over dicts: locked while they are walked. -/
namespace G
open PySem PySem.Spec PyProof.Rows L2

/-! ### a dict locked, unlocked: all else stands -/
def DkOf (H : Hp) (l : Addr) (ks : List (Key × V)) : Prop := H l = some (.dK ks) ∨ ∃ o, H l = some (.frz o (.dK ks))
structure Sw (H H' : Hp) (l : Addr) (ks : List (Key × V)) : Prop where
  ne : ∀ b, b ≠ l → H' b = H b
  h : DkOf H l ks
  h' : DkOf H' l ks
section
variable {H H' : Hp} {l : Addr} {ks : List (Key × V)} {ok : Addr → Prop} {K : PySem.W.Frag} {p : Par}
theorem Sw.off (s : Sw H H' l ks) {a : Addr} {o : HO} (e : H a = some o) (h1 : o ≠ .dK ks) (h2 : ∀ u, o ≠ .frz u (.dK ks)) : H' a = some o := by
  rw [s.ne a ?_]
  · exact e
  · intro z
    subst z
    rcases s.h with z | ⟨u, z⟩
    · rw [z] at e; exact h1 (Option.some.inj e).symm
    · rw [z] at e; exact h2 u (Option.some.inj e).symm
theorem Sw.tup (s : Sw H H' l ks) {a : Addr} {xs : List V} (r : Rd H a (.tup xs)) : Rd H' a (.tup xs) := by
  rcases r with r | ⟨o, r⟩
  · exact .inl (s.off r (fun z => nomatch z) fun _ z => nomatch z)
  · exact .inr ⟨o, s.off r (fun z => nomatch z) fun _ z => nomatch z⟩
theorem Sw.sqt (s : Sw H H' l ks) {a : Addr} {xs : List V} (r : SqT K H a xs) : SqT K H' a xs := by
  rcases r with r | r
  · exact .inl (s.tup r)
  · exact .inr r
mutual
theorem Rep.sw (s : Sw H H' l ks) : ∀ {v : V} {x : PyData}, Rep K H ok v x → Rep K H' ok v x
  | _, _, .non => .non
  | _, _, .bl b => .bl b
  | _, _, .int i => .int i
  | _, _, .str x h => .str x h
  | _, _, .lst o r z rs => .lst o (s.off r (fun z => nomatch z) fun _ z => nomatch z) z (RepL.sw s rs)
  | _, _, .tup r z rs => .tup (s.sqt r) z (RepL.sw s rs)
theorem RepL.sw (s : Sw H H' l ks) : ∀ {vs : List V} {xs : List PyData}, RepL K H ok vs xs → RepL K H' ok vs xs
  | _, _, .nil => .nil
  | _, _, .cons r rs => .cons (Rep.sw s r) (RepL.sw s rs)
end
theorem DctR.sw (s : Sw H H' l ks) {a : Addr} : ∀ {tp : Bool} {kvs : List (PyData × PyData)}, DctR p H ok a tp kvs → DctR p H' ok a tp kvs
  | false, kvs, d => by
    obtain ⟨k2, e, r⟩ := d.rd
    have r' := Paired.mapP r fun _ _ ⟨h1, h2, h3⟩ => (⟨h1, h2, Rep.sw s h3⟩ : _ ∧ _ ∧ _)
    by_cases c : a = l
    · subst c
      have e2 : k2 = ks := by
        rcases e with e | ⟨o, e⟩ <;> rcases s.h with z | ⟨u, z⟩ <;> rw [z] at e <;> cases e <;> rfl
      subst e2
      rcases s.h' with z | ⟨u, z⟩
      · exact .inl ⟨k2, z, r'⟩
      · exact .inr ⟨rfl, u, k2, z, r'⟩
    · rcases e with e | ⟨o, e⟩
      · exact .inl ⟨k2, by rw [s.ne a c]; exact e, r'⟩
      · exact .inr ⟨rfl, o, k2, by rw [s.ne a c]; exact e, r'⟩
  | true, kvs, d => by
    obtain ⟨es, ep, xs, e, h1, h2, h3, h4, r⟩ := d.tt
    exact .inl ⟨es, ep, xs, s.off e (fun z => by cases z) (fun _ z => by cases z), h1, h2, h3, h4, Paired.mapP r fun _ _ ⟨q1, q2, q3, v, q4, q5⟩ => ⟨q1, q2, Rep.sw s q3, v, q4, Rep.sw s q5⟩⟩
theorem RepA.sw (s : Sw H H' l ks) {ad : List (Option Addr)} {v : V} : ∀ {av : AV}, RepA p H ok ad v av → RepA p H' ok ad v av
  | .dat x, r => Rep.sw s r
  | .dct tp kvs, ⟨a, e, h, d⟩ => ⟨a, e, h, DctR.sw s d⟩
  | .cel i, r => r
  | .scr ns, ⟨hl, a, e, q⟩ => ⟨hl, a, e, q.imp (fun ⟨o, z⟩ => ⟨o, s.off z (fun z => nomatch z) fun _ z => nomatch z⟩) id⟩
  | .brd rms cks i, ⟨a, u, e, h, ⟨d, r, vc, q1, q2, q3, q4⟩, z⟩ => ⟨a, u, e, h, ⟨d, r, vc, s.off q1 (fun z => nomatch z) (fun _ z => nomatch z), q2, DctR.sw s q3, Rep.sw s q4⟩, z⟩
theorem CellAt.sw (s : Sw H H' l ks) {a : Addr} (n : a ≠ l) : ∀ {cl : Cell}, CellAt p H ok a cl → CellAt p H' ok a cl
  | .lst ds, ⟨xs, h1, h2, h3⟩ => ⟨xs, by rw [s.ne a n]; exact h1, h2, RepL.sw s h3⟩
  | .dct false kvs, ⟨k2, e, r⟩ => ⟨k2, by rw [s.ne a n]; exact e, Paired.mapP r fun _ _ ⟨h1, h2, h3⟩ => ⟨h1, h2, Rep.sw s h3⟩⟩
  | .dct true kvs, ⟨es, ep, xs, e, h1, h2, h3, h4, r⟩ => ⟨es, ep, xs, by rw [s.ne a n]; exact e, h1, h2, h3, h4, Paired.mapP r fun _ _ ⟨q1, q2, q3, v, q4, q5⟩ => ⟨q1, q2, Rep.sw s q3, v, q4, Rep.sw s q5⟩⟩
  | .gone, r => r
end

/-! ### frames -/
/-- while l is walked it stands as it is, as what stood before -/
abbrev Ent.lk (c : Ent) (l : Addr) (o : HO) : Ent := { c with He := upd c.He l o, S := fun a => c.S a ∨ a = l }
section
variable {p : Par} {c : Ent} {fr : Fr} {ad : List (Option Addr)} {σ : L2.St} {H H' : Hp} {l : Addr} {ks : List (Key × V)}
theorem okP_lk {o : HO} : ∀ a, okP c ad a → okP (c.lk l o) ad a := fun a h => ⟨⟨by
  by_cases z : a = l
  · exact .inr (.inr z)
  · exact h.1.1.imp (fun y => by show upd c.He l o a = none; rw [upd_ne z]; exact y) .inl, h.1.2⟩, h.2⟩
theorem FR.lock (F : FR p c fr ad σ H) (hl : okP c ad l) {o : HO} (e : H' l = some o) (s : Sw H H' l ks) : FR p (c.lk l o) fr ad σ H' := by
  have ne : ∀ a, some a ∈ ad → a ≠ l := fun a h z => hl.2 (by rw [← z]; exact h)
  have th : ∀ b u, H b = some u → ∃ v, H' b = some v := fun b u z => by
    by_cases y : b = l
    · rw [y]; exact ⟨o, e⟩
    · exact ⟨u, by rw [s.ne b y]; exact z⟩
  refine ⟨F.len, fun i av z => ?_, F.clen, fun i a z => ?_, F.nd, fun b u z n => ?_, F.sub, fun a z => ?_, fun g hg => ⟨(F.gh g hg).1, RepA.mono okP_lk (RepA.sw s (F.gh g hg).2)⟩, fun a ha => ⟨(F.pr a ha).1, ?_⟩, F.bs⟩
  · obtain ⟨v, h1, h2⟩ := F.var i av z
    exact ⟨v, h1, RepA.mono okP_lk (RepA.sw s h2)⟩
  · obtain ⟨cl, h1, h2⟩ := F.cel i a z
    exact ⟨cl, h1, CellAt.mono okP_lk (CellAt.sw s (ne a (List.mem_of_getElem? z)) h2)⟩
  · by_cases y : b = l
    · subst y
      have z' : upd c.He b o b = some u := z
      rw [upd_same] at z'
      cases z'
      exact e
    · have z' : upd c.He l o b = some u := z
      rw [upd_ne y] at z'
      rw [s.ne b y]
      exact F.old b u z' n
  · refine (F.adw a z).imp id fun y => ?_
    show upd c.He l o a = none
    rw [upd_ne (ne a z)]; exact y
  · obtain ⟨_, v, y⟩ := F.pr a ha
    exact th a v y
theorem FR.unlock {o : HO} (F : FR p (c.lk l o) fr ad σ H) (hl : (c.He l = none ∨ c.S l) ∧ l ∉ c.prot) (hw : l ∉ c.W0) {u : HO} (e : H' l = some u) (s : Sw H H' l ks) (ho : ∀ y, c.He l = some y → u = y) : FR p c fr ad σ H' ∧ some l ∉ ad ∧ ∀ a, okP (c.lk l o) ad a → okP c ad a := by
  have nl : some l ∉ ad := fun z => by
    rcases F.adw l z with y | y
    · exact hw y
    · have y' : upd c.He l o l = none := y
      rw [upd_same] at y'
      cases y'
  have ne : ∀ a, some a ∈ ad → a ≠ l := fun a h z => nl (by rw [← z]; exact h)
  have back : ∀ a, okP (c.lk l o) ad a → okP c ad a := fun a h => by
    by_cases z : a = l
    · subst z; exact ⟨hl, nl⟩
    · refine ⟨⟨?_, h.1.2⟩, h.2⟩
      rcases h.1.1 with y | y
      · have y' : upd c.He l o a = none := y
        rw [upd_ne z] at y'
        exact .inl y'
      · exact y.elim .inr fun y => absurd y z
  refine ⟨⟨F.len, fun i av z => ?_, F.clen, fun i a z => ?_, F.nd, fun b v z n => ?_, F.sub, fun a z => ?_, fun g hg => ⟨(F.gh g hg).1, RepA.mono back (RepA.sw s (F.gh g hg).2)⟩, fun a ha => ⟨(F.pr a ha).1, ?_⟩, F.bs⟩, nl, back⟩
  · obtain ⟨v, h1, h2⟩ := F.var i av z
    exact ⟨v, h1, RepA.mono back (RepA.sw s h2)⟩
  · obtain ⟨cl, h1, h2⟩ := F.cel i a z
    exact ⟨cl, h1, CellAt.mono back (CellAt.sw s (ne a (List.mem_of_getElem? z)) h2)⟩
  · by_cases y : b = l
    · subst y
      rw [e, ho v z]
    · rw [s.ne b y]
      exact F.old b v (by show upd c.He l o b = some v; rw [upd_ne y]; exact z) n
  · refine (F.adw a z).imp id fun y => ?_
    have y' : upd c.He l o a = none := y
    rwa [upd_ne (ne a z)] at y'
  · obtain ⟨_, v, y⟩ := F.pr a ha
    by_cases z : a = l
    · rw [z]; exact ⟨u, e⟩
    · exact ⟨v, by rw [s.ne a z]; exact y⟩
end

/-! ### the walk -/
section
variable {X : Cx} {td : TE} {e : Expr} {st : Stmt} {t : TS}
/-- an expression, its dict locked behind it -/
def tLk (X : Cx) (td : TE) : TE := fun σ H Q => td σ H fun x H1 => Q x H1 ∨ ∃ l ks, x = .ref l ∧ H1 l = some (.dK ks) ∧ ((∀ o' u', X.H_0 l ≠ some (.frz o' u')) → ∀ o, Q x (upd H1 l (.frz o (.dK ks))))
theorem pe_lk (h : PE X e td) : PE X e (tLk X td) := by
  refine ⟨fun pins s σ H Q I hw => thn (h.run pins s σ H _ I hw) fun v s1 ⟨x, H1, I1, r, q⟩ => ?_⟩
  rcases q with q | ⟨l, ks, ex, hd, q⟩
  · exact ⟨x, H1, I1, r, q⟩
  · obtain ⟨od, I2⟩ := I1.lock hd trivial
    exact ⟨x, _, I2, r, q (I1.nofrz hd trivial) od⟩
/-- what is wished, of what stands unlocked -/
def lkE (X : Cx) {α : Type} (D : α → Hp → Prop) : α → Hp → Prop := fun a H => D a H ∨ ∃ l o ks, H l = some (.frz o (.dK ks)) ∧ (∀ o' u', X.H_0 l ≠ some (.frz o' u')) ∧ D a (upd H l (.dK ks))
theorem ps_unlk (h : PS X st t) : PS X st fun D σ H => t ⟨lkE X D.nx, lkE X D.rt, lkE X D.bk, lkE X D.ct⟩ σ H := by
  refine ⟨fun pins s σ H D I hw => thn (h.run pins s σ H _ I hw) fun f s1 q => ?_⟩
  have go : ∀ {σ' : L2.St} {H' : Hp} {P : Hp → Prop}, Inv X pins σ' H' s1 → (P H' ∨ ∃ l o ks, H' l = some (.frz o (.dK ks)) ∧ (∀ o' u', X.H_0 l ≠ some (.frz o' u')) ∧ P (upd H' l (.dK ks))) → ∃ H2, Inv X pins σ' H2 s1 ∧ P H2 := fun {σ' H' P} I' q => by
    rcases q with q | ⟨l, o, ks, hd, hn, q⟩
    · exact ⟨H', I', q⟩
    · exact ⟨_, I'.unlock hd hn, q⟩
  cases f with
  | next => obtain ⟨σ', H', I2, q⟩ := q; obtain ⟨H2, J, q⟩ := go (P := D.nx σ') I2 q; exact ⟨σ', H2, J, q⟩
  | brk => obtain ⟨σ', H', I2, q⟩ := q; obtain ⟨H2, J, q⟩ := go (P := D.bk σ') I2 q; exact ⟨σ', H2, J, q⟩
  | cont => obtain ⟨σ', H', I2, q⟩ := q; obtain ⟨H2, J, q⟩ := go (P := D.ct σ') I2 q; exact ⟨σ', H2, J, q⟩
  | ret v => obtain ⟨x, σ', H', I2, r, q⟩ := q; obtain ⟨H2, J, q⟩ := go (P := D.rt x) I2 q; exact ⟨x, σ', H2, J, r, q⟩
end
/-- no exception within -/
@[simp] def noX : SRes → SRes
  | .exc _ _ _ => .err
  | r => r
@[simp] def sForK (f : Fr → Res AV) (g : Tg) (b : Fr → SRes) : Fr → SRes := fun fr => (f fr).toS fun a fr1 => match a with
  | .dct false kvs => forA g (fun fr => noX (b fr)) (kvs.map (·.1)) fr1
  | _ => .err
@[simp] def sForI (f : Fr → Res AV) (g : Tg) (b : Fr → SRes) : Fr → SRes := fun fr => (f fr).toS fun a fr1 => match a with
  | .dct false kvs => forA g (fun fr => noX (b fr)) (itemsD kvs) fr1
  | _ => .err
/-- what a walk over the locked dict yields -/
structure DWk (p : Par) (J : It) (l : Addr) (o : Obj) (ks : List (Key × V)) (kvs : List (PyData × PyData)) (its : List PyData) : Prop where
  len : its.length = kvs.length
  go : ∀ (ok : Addr → Prop) (H : Hp) (i : Nat) (y : PyData), (∀ q, H q = none → ok q) → H l = some (.frz o (.dK ks)) → Paired (PrF p H ok) ks kvs → its[i]? = some y → J.go i H ∧ ∀ v H', J.yld i H v H' → Grow H H' ∧ Rep p.K H' ok v y
  stop : ∀ (H : Hp), H l = some (.frz o (.dK ks)) → ks.length = its.length → J.stop its.length H
theorem key_reps {K : PySem.W.Frag} {H : Hp} {ok : Addr → Prop} (n : Key) (h : keyS n) : Rep K H ok (kV n) (keyD n) := by
  cases n with
  | inl i => exact .int i
  | inr x => exact .str x h
theorem prF_at {p : Par} {H : Hp} {ok : Addr → Prop} {ks : List (Key × V)} {kvs : List (PyData × PyData)} (r : Paired (PrF p H ok) ks kvs) : ∀ {i : Nat} {x : Key × V}, ks[i]? = some x → ∃ q, kvs[i]? = some q ∧ PrF p H ok x q := by
  induction r with
  | nil => intro i x e; simp at e
  | cons h _ ih =>
    intro i x e
    cases i with
    | zero => simp at e; subst e; exact ⟨_, rfl, h⟩
    | succ j => obtain ⟨q, h1, h2⟩ := ih (i := j) (by simpa using e); exact ⟨q, by simpa using h1, h2⟩
theorem dwk_keys {p : Par} {l : Addr} {o : Obj} {ks : List (Key × V)} {kvs : List (PyData × PyData)} : DWk p (Itk l o ks) l o ks kvs (kvs.map (·.1)) where
  len := List.length_map ..
  go := fun ok H i y hok e r hy => by
    have hi : i < ks.length := by
      have := lt_of_at hy
      rw [List.length_map, ← Paired.length r] at this
      exact this
    refine ⟨⟨e, hi⟩, fun v H' hz => ?_⟩
    obtain ⟨rfl, k, w, hk, rfl⟩ := hz
    obtain ⟨q, hq, h1, h2, h3⟩ := prF_at r hk
    rw [List.getElem?_map, hq] at hy
    cases hy
    refine ⟨Grow.refl, ?_⟩
    show Rep p.K H' ok (kV k) q.1
    rw [show q.1 = keyD k from h1]
    exact key_reps k h2
  stop := fun H e hl => ⟨e, by omega⟩
theorem dwk_items {p : Par} {l : Addr} {o : Obj} {ks : List (Key × V)} {kvs : List (PyData × PyData)} : DWk p (Iti l o ks) l o ks kvs (itemsD kvs) where
  len := List.length_map ..
  go := fun ok H i y hok e r hy => by
    have hi : i < ks.length := by
      have := lt_of_at hy
      rw [itemsD, List.length_map, ← Paired.length r] at this
      exact this
    refine ⟨⟨e, hi⟩, fun v H' hz => ?_⟩
    obtain ⟨T, k, w, hk, rfl, hT, rfl⟩ := hz
    obtain ⟨q, hq, h1, h2, h3⟩ := prF_at r hk
    unfold itemsD at hy
    rw [List.getElem?_map, hq] at hy
    cases hy
    have gr : Grow H (upd H T (.tup [kV k, w])) := Grow.new hT
    refine ⟨gr, .tup (.inl (.inl upd_same)) (by show 2 ≤ sizeLine; decide) (.cons ?_ (.cons (Rep.keep gr.keep h3) .nil))⟩
    rw [show q.1 = keyD k from h1]
    exact key_reps k h2
  stop := fun H e hl => ⟨e, by omega⟩
section
variable {X : Cx} {x : XW} {tg e : Expr} {f : Fr → Res AV} {g : Tg} {b : Fr → SRes} {is : List Nat} {body : List Stmt} {pos : Pos}
def WalkS (X : Cx) (x : XW) (g : Tg) (b : Fr → SRes) (is : List Nat) (D : Ends) (J : It) (σ : L2.St) (H' : Hp) : Prop := ∃ W : Nat → Nat → L2.St → Hp → Prop, (∃ m, W 0 m σ H') ∧ ∀ i m σ H, W i m σ H → (J.stop i H ∧ lkE X D.nx σ H) ∨ (J.go i H ∧ ∃ N : L2.St → Hp → Prop, (∀ σ' H', N σ' H' → ∃ m', m' < m ∧ W (i + 1) m' σ' H') ∧ ∀ v H', J.yld i H v H' → tG (pX X) is g v σ H' fun σ2 H2 => tS (pX X) x b { nx := N, rt := lkE X D.rt, ct := N, bk := lkE X D.nx } σ2 H2)
/-- a walk over a dict, by what it yields -/
theorem dwalk (mk : List (PyData × PyData) → List PyData) (JJ : Addr → Obj → List (Key × V) → It) (hJ : ∀ l o ks kvs, DWk (pX X) (JJ l o ks) l o ks kvs (mk kvs)) {c : Ent} {ad1 : List (Option Addr)} {fr1 : Fr} {σ : L2.St} {H1 : Hp} {D : Ends} (F1 : FR (pX X) c fr1 ad1 σ H1) {l : Addr} {kvs : List (PyData × PyData)} (hl : okP c ad1 l) (d : DctR (pX X) H1 (okP c ad1) l false kvs)
    (o1 : SOut (pX X) x c (forA g (fun fr => noX (b fr)) (mk kvs) fr1) D) :
    (∃ o ks, H1 l = some (.frz o (.dK ks)) ∧ WalkS X x g b is D (JJ l o ks) σ H1) ∨ ∃ ks, H1 l = some (.dK ks) ∧ ((∀ o' u', X.H_0 l ≠ some (.frz o' u')) → ∀ o, WalkS X x g b is D (JJ l o ks) σ (upd H1 l (.frz o (.dK ks)))) := by
  have hw : l ∉ c.W0 := fun z => by
    obtain ⟨j, e⟩ := mem_at z
    exact hl.2 (List.mem_of_getElem? (F1.sub j l e))
  have fin : ∀ (o : Obj) (ks : List (Key × V)) (H' : Hp) (u : HO), H' l = some (.frz o (.dK ks)) → Sw H1 H' l ks → H1 l = some u → (u = .dK ks ∨ u = .frz o (.dK ks)) → (u = .dK ks → ∀ o' u', X.H_0 l ≠ some (.frz o' u')) → WalkS X x g b is D (JJ l o ks) σ H' := by
    intro o ks H' u e s hu hu2 hnf
    have hold : ∀ y, c.He l = some y → u = y := fun y z => by
      have := F1.old l y z hw
      rw [hu] at this
      exact Option.some.inj this
    have F' := F1.lock hl e s
    have k0 : Paired (PrF (pX X) H1 (okP c ad1)) ks kvs := by
      obtain ⟨k2, e2, r⟩ := d.rd
      have : k2 = ks := by
        rcases e2 with e2 | ⟨o2, e2⟩ <;> rw [hu] at e2 <;> rcases hu2 with z | z <;> rw [z] at e2 <;> cases e2 <;> rfl
      rw [← this]; exact r
    have gh0 : ∀ g' ∈ [((.ref l : V), AV.dct false kvs)], isDat g'.2 = true ∧ RepA (pX X) H' (okP (c.lk l (.frz o (.dK ks))) ad1) ad1 g'.1 g'.2 := fun g' hg => by
      rw [List.mem_singleton.mp hg]
      exact ⟨rfl, l, rfl, okP_lk l hl, .inr ⟨rfl, o, ks, e, Paired.mapP k0 fun _ _ ⟨h1, h2, h3⟩ => ⟨h1, h2, Rep.mono okP_lk (Rep.sw s h3)⟩⟩⟩
    generalize hqs : [((.ref l : V), AV.dct false kvs)] = qs at gh0
    have len := (hJ l o ks kvs).len
    generalize hits : mk kvs = ys at o1 len
    have J := hJ l o ks kvs
    rw [hits] at J
    -- from the locked frame to what is wished
    have out : ∀ {fr : Fr} {ad : List (Option Addr)} {σ' : L2.St} {H2 : Hp}, FR (pX X) ((c.lk l (.frz o (.dK ks))).plus qs) fr ad σ' H2 → ∃ H3, (H3 = H2 ∨ (H2 l = some (.frz o (.dK ks)) ∧ (∀ o' u', X.H_0 l ≠ some (.frz o' u')) ∧ H3 = upd H2 l (.dK ks))) ∧ FR (pX X) c fr ad σ' H3 ∧ (∀ {v : V} {av : AV}, RepA (pX X) H2 (okP ((c.lk l (.frz o (.dK ks))).plus qs) ad) ad v av → RepA (pX X) H3 (okP c ad) ad v av) := by
      intro fr ad σ' H2 F2
      have F3 := F2.less
      have e2 : H2 l = some (.frz o (.dK ks)) := F3.old l _ (by show upd c.He l (.frz o (.dK ks)) l = _; rw [upd_same]) hw
      rcases hu2 with z | z
      · have s2 : Sw H2 (upd H2 l (.dK ks)) l ks := ⟨fun b hb => upd_ne hb, .inr ⟨o, e2⟩, .inl upd_same⟩
        obtain ⟨F4, _, back⟩ := F3.unlock hl.1 hw (u := .dK ks) upd_same s2 (fun y hy => by rw [← z]; exact hold y hy)
        exact ⟨_, .inr ⟨e2, hnf z, rfl⟩, F4, fun {v av} r => RepA.mono back (RepA.sw s2 r)⟩
      · have s2 : Sw H2 H2 l ks := ⟨fun b hb => rfl, .inr ⟨o, e2⟩, .inr ⟨o, e2⟩⟩
        obtain ⟨F4, _, back⟩ := F3.unlock hl.1 hw (u := .frz o (.dK ks)) e2 s2 (fun y hy => by rw [← z]; exact hold y hy)
        exact ⟨_, .inl rfl, F4, fun {v av} r => RepA.mono back (RepA.sw s2 r)⟩
    have lkw : ∀ {α : Type} {P : α → Hp → Prop} {a : α} {H2 H3 : Hp}, (H3 = H2 ∨ (H2 l = some (.frz o (.dK ks)) ∧ (∀ o' u', X.H_0 l ≠ some (.frz o' u')) ∧ H3 = upd H2 l (.dK ks))) → P a H3 → lkE X P a H2 := fun {α P a H2 H3} h p => by
      rcases h with h | ⟨h1, h2, h3⟩
      · rw [h] at p; exact .inl p
      · rw [h3] at p; exact .inr ⟨l, o, ks, h1, h2, p⟩
    refine ⟨fun i m σ H => i ≤ ys.length ∧ m = ys.length - i ∧ ∃ fr ad, FR (pX X) ((c.lk l (.frz o (.dK ks))).plus qs) fr ad σ H ∧ SOut (pX X) x c (forA g (fun fr => noX (b fr)) (ys.drop i) fr) D, ⟨ys.length, Nat.zero_le _, by simp, fr1, ad1, F'.plus gh0, o1⟩, ?_⟩
    rintro i m σ2 H2 ⟨hi2, rfl, fr2, ad2, F2, o2⟩
    have e2 : H2 l = some (.frz o (.dK ks)) := F2.less.old l _ (by show upd c.He l (.frz o (.dK ks)) l = _; rw [upd_same]) hw
    have k2 : Paired (PrF (pX X) H2 (okP ((c.lk l (.frz o (.dK ks))).plus qs) ad2)) ks kvs := by
      obtain ⟨_, l', hl', _, dd⟩ := F2.gh (.ref l, .dct false kvs) (List.mem_append_left _ (by rw [← hqs]; exact List.mem_singleton.mpr rfl))
      cases hl'
      obtain ⟨k3, e3, r⟩ := dd.rd
      have : k3 = ks := by rcases e3 with e3 | ⟨o3, e3⟩ <;> rw [e2] at e3 <;> cases e3 <;> rfl
      subst this
      exact r
    by_cases hlt : i < ys.length
    · right
      have ey : ys[i]? = some ys[i] := by rw [List.getElem?_eq_getElem hlt]
      obtain ⟨h1, h2⟩ := J.go _ H2 i _ (fun q hq => okP_new F2 hq) e2 k2 ey
      refine ⟨h1, fun σ' H' => ∃ fr ad, FR (pX X) ((c.lk l (.frz o (.dK ks))).plus qs) fr ad σ' H' ∧ SOut (pX X) x c (forA g (fun fr => noX (b fr)) (ys.drop (i + 1)) fr) D, fun σ' H' h => ⟨ys.length - (i + 1), by omega, hlt, rfl, h⟩, fun v H3 hy => ?_⟩
      obtain ⟨gr, rv⟩ := h2 v H3 hy
      rw [List.drop_eq_getElem_cons hlt] at o2
      unfold forA at o2
      cases q1 : g ys[i] fr2 with
      | none => rw [q1] at o2; exact o2.elim
      | some fr3 =>
        rw [q1] at o2
        simp only at o2
        refine ⟨_, fr2, ad2, _, fr3, F2.grow gr, rv, q1, fun σ3 F3 _ => ⟨_, fr3, ad2, F3, ?_⟩⟩
        cases q2 : b fr3 with
        | nx f4 => rw [q2] at o2; exact fun ad4 σ4 H4 F4 => ⟨f4, ad4, F4, o2⟩
        | ct f4 => rw [q2] at o2; exact fun ad4 σ4 H4 F4 => ⟨f4, ad4, F4, o2⟩
        | bk f4 =>
          rw [q2] at o2
          exact fun ad4 σ4 H4 F4 => let ⟨H5, h5, F5, _⟩ := out F4; lkw (P := D.nx) h5 (o2 ad4 σ4 H5 F5)
        | ret a f4 =>
          rw [q2] at o2
          exact fun ad4 σ4 H4 v4 F4 r4 => let ⟨H5, h5, F5, rr⟩ := out F4; lkw (P := D.rt) h5 (o2 ad4 σ4 H5 v4 F5 (rr r4))
        | exc cl fs f4 => rw [q2] at o2; exact o2.elim
        | err => rw [q2] at o2; exact o2.elim
    · have e1 : i = ys.length := by omega
      subst e1
      left
      refine ⟨J.stop H2 e2 (by rw [Paired.length k2, len]), ?_⟩
      rw [List.drop_length] at o2
      obtain ⟨H5, h5, F5, _⟩ := out F2
      exact lkw (P := D.nx) h5 (o2 ad2 σ2 H5 F5)
  rcases d with ⟨ks, e, r⟩ | ⟨_, o, ks, e, r⟩
  · exact .inr ⟨ks, e, fun hn o => fin o ks _ _ upd_same ⟨fun b hb => upd_ne hb, .inl e, .inr ⟨o, upd_same⟩⟩ e (.inl rfl) fun _ => hn⟩
  · exact .inl ⟨o, ks, e, fin o ks H1 _ e ⟨fun b hb => rfl, .inr ⟨o, e⟩, .inr ⟨o, e⟩⟩ e (.inr rfl) fun z => nomatch z⟩
theorem as_forK (hp : PassesOwn (model X.prog X.w) X.A X.env X.xe) (hc : X.calm = true) (ha : AE X x e f) (hg : AG X tg is g) (hb : ASs X x body b)
    (hs : ∀ z, foldedSetIterable e X.env z = pure z := by intro _; rfl) : AS X x (.For tg e body [] pos) (sForK f g b) := by
  refine (ps_unlk (ps_for hp hc (pi_keys (pe_lk ha)) hg hb hs)).imp fun D σ H ⟨c, fr, ad, F, o⟩ => ⟨c, fr, ad, F, (SOut.of F o).mono fun a fr1 ad1 H1 F1 m1 o1 v rv => ?_⟩
  cases a with
  | dct tp kvs =>
    cases tp with
    | true => exact o1.elim
    | false =>
      obtain ⟨l, rfl, hl, d⟩ := rv
      rcases dwalk (is := is) (fun kvs => kvs.map (·.1)) Itk (fun _ _ _ _ => dwk_keys) F1 hl d o1 with ⟨o, ks, e, W⟩ | ⟨ks, e, W⟩
      · exact .inl ⟨l, o, rfl, .inl ⟨ks, e, W⟩⟩
      · exact .inr ⟨l, ks, rfl, e, fun hn o => ⟨l, o, rfl, .inl ⟨ks, upd_same, W hn o⟩⟩⟩
  | _ => exact o1.elim
theorem as_forI {elts : List Expr} {kk : Nat} {tpos apos cpos : Pos} (hp : PassesOwn (model X.prog X.w) X.A X.env X.xe) (hc : X.calm = true) (ha : AE X x e f) (hg : AG X (.Tuple elts kk tpos) is g) (hb : ASs X x body b)
    (hbase : attributeBase e "items" X.env (eval e X.env) = eval e X.env := by rfl) (hline : (apos.endLine == cpos.line) = true := by rfl)
    (hs : ∀ z, foldedSetIterable (.Call (.Attribute e "items" apos) [] [] cpos) X.env z = pure z := by intro _; rfl) : AS X x (.For (.Tuple elts kk tpos) (.Call (.Attribute e "items" apos) [] [] cpos) body [] pos) (sForI f g b) := by
  refine (ps_unlk (ps_for hp hc (pi_items (pe_lk ha) hbase hline) hg hb hs)).imp fun D σ H ⟨c, fr, ad, F, o⟩ => ⟨c, fr, ad, F, (SOut.of F o).mono fun a fr1 ad1 H1 F1 m1 o1 v rv => ?_⟩
  cases a with
  | dct tp kvs =>
    cases tp with
    | true => exact o1.elim
    | false =>
      obtain ⟨l, rfl, hl, d⟩ := rv
      rcases dwalk (is := is) itemsD Iti (fun _ _ _ _ => dwk_items) F1 hl d o1 with ⟨o, ks, e, W⟩ | ⟨ks, e, W⟩
      · exact .inl ⟨l, o, ks, rfl, e, W⟩
      · exact .inr ⟨l, ks, rfl, e, fun hn o => ⟨l, o, ks, rfl, upd_same, W hn o⟩⟩
  | _ => exact o1.elim
end
end G
/-! HN: str of data; a law that knows that nothing is being shown around it. -/
namespace G
open PySem PySem.Spec PyProof.Rows L2

def shC (x : PyData) : Bool := (x.showable && decide (x.depth ≤ 60)) && (decide (x.shown.length ≤ sizeLine) && PyData.strOk x.shown)
def strD : PyData → Option PyData
  | .str a => some (.str a)
  | .none => some (.str "None")
  | .bool b => some (.str (if b then "True" else "False"))
  | x => if shC x = true then some (.str x.shown) else none
def dStr : List PyData → Option PyData
  | [x] => strD x
  | _ => none
theorem shC_of {x : PyData} (h : shC x = true) : x.showable = true ∧ x.depth ≤ 60 ∧ x.shown.length ≤ sizeLine ∧ PyData.strOk x.shown = true := by
  unfold shC at h
  rw [Bool.and_eq_true, Bool.and_eq_true, Bool.and_eq_true] at h
  exact ⟨h.1.1, of_decide_eq_true h.1.2, of_decide_eq_true h.2.1, h.2.2⟩
theorem if_some {c : Bool} {a r : PyData} (h : (if c = true then some a else none) = some r) : c = true ∧ r = a := by
  cases c with
  | true => simp at h; exact ⟨rfl, h.symm⟩
  | false => simp at h
section
variable {X : Cx}
theorem c_str (hg : X.A.guards = some []) (hu : X.A.units + 64 < cLine) : CallR X (.type "str") (rCall X.K dStr) := by
  intro pins s σ H xs us Q I rx hh
  obtain ⟨ok, ds, r, hok, hx, e, q⟩ := hh
  match ds, e with
  | [], e => cases e
  | _ :: _ :: _, e => cases e
  | [y], e =>
    obtain ⟨v, rfl, h⟩ := hx.one
    obtain ⟨u, rfl, ru⟩ := vals1 rx
    have nd : y.hasDict = false := PyData.hasDict_of_canLay y h.lay
    have deep : ∀ a : Addr, u = .ref a → shC y = true → Q (.str y.shown) H → wpAny (model X.prog X.w) X.A (call (.type "str") [.ref a]) (EP X pins σ Q) X.xe s := by
      intro a ea d1 d4
      obtain ⟨c1, c2, c3, c4⟩ := shC_of d1
      obtain ⟨as, r1⟩ := Dp.reads I y v u h.dp ru
      subst ea
      exact PySem.str_of_reads r1 c1 (PyData.noDict_hsm nd) hg (by omega) (fun _ _ z => z) (fun h' u' tk k => ⟨.str y.shown, H, I.kept k, ⟨_, rfl⟩, d4⟩) c3
    cases y with
    | str a =>
      cases e
      obtain ⟨rfl, ho⟩ := h.str
      obtain ⟨t, rfl⟩ := ru
      exact PySem.P.str_of_str ⟨.str a, H, I, ⟨t, rfl⟩, q _ _ Grow.refl (.str a ho)⟩
    | none =>
      cases e
      cases h.none
      cases ru
      exact PySem.P.str_of_none ⟨.str "None", H, I.tok _, ⟨_, rfl⟩, q _ _ Grow.refl (.str _ (by decide +kernel))⟩
    | bool b =>
      cases e
      cases h.bool
      cases ru
      cases b <;> exact PySem.P.str_of_bool ⟨.str _, H, I.tok _, ⟨_, rfl⟩, q _ _ Grow.refl (.str _ (by decide +kernel))⟩
    | int i =>
      obtain ⟨hz, rfl⟩ := if_some e
      obtain ⟨c1, c2, c3, c4⟩ := shC_of hz
      cases h.int
      obtain ⟨t, rfl⟩ := ru
      exact PySem.P.str_of_int (by simpa [PyData.showable] using c1) ⟨.str _, H, I.tok _, ⟨_, rfl⟩, by simpa [PyData.shown] using q _ _ Grow.refl (.str _ c4)⟩
    | list ys =>
      obtain ⟨hz, rfl⟩ := if_some e
      obtain ⟨c1, c2, c3, c4⟩ := shC_of hz
      obtain ⟨a, zs, rfl, _⟩ := h.list
      cases ru
      exact deep a rfl hz (q _ _ Grow.refl (.str _ c4))
    | tuple ys =>
      obtain ⟨hz, rfl⟩ := if_some e
      obtain ⟨c1, c2, c3, c4⟩ := shC_of hz
      obtain ⟨a, zs, rfl, _⟩ := h.tuple
      cases ru
      exact deep a rfl hz (q _ _ Grow.refl (.str _ c4))
    | dict kvs => simp [PyData.hasDict] at nd
end

/-! ### the law's own call: nothing is being shown around it -/
structure FnG (P : Program) (w : World) (K : PySem.W.Frag) (mg : Str → Option Value) (base : Heap) (CX : CXT) (k : Nat) (f : Addr) (fd : FuncData) (ps : List Str) (sp : Sp) : Prop where
  len : ∀ xs H Q E, sp xs H Q E → xs.length = ps.length
  run : ∀ (B : Around) (o1 : List Env) (s : Shared) (H : Hp) (g : Args) (us : List Value) (xs : List V) (Q : VK) (E : XK), B.guards = some [] → Room k B → Env0 P w K mg base B o1 s H → BindsTo s fd g (ps.zip us) → Vals xs us → sp xs H Q E →
    codeAny (model P w) B (.call (.ref f) g) (CR CX o1 P w H s Q E) s
theorem fnG_of {CX : CXT} {P : Program} {w : World} {K : PySem.W.Frag} {mg : Str → Option Value} {base : Heap} {n qual : Str} {params : Arguments} {body : List Stmt} {scope : Scope} {dvs : List V} {kws : List (Str × V)} {f : Addr} {fd : FuncData} {N ps : List Str} {k : Nat} {sp : Sp} (F : FunD K n qual params body scope dvs kws f fd) (S : FnScope N ps scope)
    (ln : ∀ xs H Q E, sp xs H Q E → xs.length = ps.length)
    (hB : ∀ (cdv : Value) (B : Around) (o1 : List Env) (s : Shared) (H : Hp) (xs : List V) (Q : VK) (E : XK), B.guards = some [] → Room k (B.deeper (envOfC qual scope s.heap.objs.size f cdv)) → sp xs H Q E →
      ∃ t, PSs (cxOf CX P w K mg base N qual scope f cdv B o1 s H E) body t ∧ t { nx := fun _ H' => Q .non H', rt := Q } (L2.start N xs) H) :
    FnG P w K mg base CX (k + 1) f fd ps sp := by
  obtain ⟨c1, d1, dV, kV, doc, pm, an, cdv, ct, sl, rfl, lk, hcd, _, _⟩ := F.ex
  refine ⟨ln, fun B o1 s H g us xs Q E gd hr e0 bd rv hs => ?_⟩
  have xl := ln _ _ _ _ hs
  have kin : K.In s.heap := e0.mod.kin.keeps fun b o z => (e0.bs b o z).1
  have nl : s.heap.NoLimit := e0.mod.nolimit.keeps fun b o z => (e0.bs b o z).1
  have kd : ∀ z ∈ ps.zip us, scope.names.lookup z.1 = some .local ∨ (scope.names.lookup z.1 = some .cell ∧ ((cellsFrom (s.heap.objs.size + 1) scope.names []).lookup z.1).isSome = true) := by
    rintro ⟨m, v⟩ hz
    rcases S.par m (List.of_mem_zip hz).1 with h | h
    · exact .inl h
    · exact .inr ⟨h, PySem.W.cellsFrom_some _ _ _ (.inl h)⟩
  refine codeAny_call_function hr.depth (kin _ _ lk) rfl S.co S.gen rfl (PySem.W.codeRec_of kin hcd) (bd _ _ _ _ ?_)
  refine wpAny_newFunctionEnv_cells S.kind kd fun env he t1 y => ?_
  subst he
  refine ⟨nl.keeps y.toInCall.keep, codeAny_func ?_⟩
  obtain ⟨t, ht, hq⟩ := hB cdv B o1 s H xs Q E gd (hr.deeper _) hs
  have J : Inv (cxOf CX P w K mg base N qual scope f cdv B o1 s H E) [] (L2.start N xs) H t1 := inv_start S hr.hd e0 xl rv y
  have done : ∀ {τ : L2.St} {H' : Hp} {t2 : Shared} {v : V} {u : Value}, Inv (cxOf CX P w K mg base N qual scope f cdv B o1 s H E) [] τ H' t2 → RelV v u → Q v H' → CE o1 P w H s Q u t2 :=
    fun {τ H' t2 v u} J2 r2 q2 => ⟨v, H', J2.os, J2.bare, J2.base, J2.hok, r2, q2⟩
  refine wpAny_mono (ht.run [] t1 (L2.start N xs) H _ J hq) (fun fl t2 h2 => ?_) fun e t2 h2 => h2
  match fl, h2 with
  | .ret u, ⟨v, τ, H', J2, r2, q2⟩ => exact done J2 r2 q2
  | .next, ⟨τ, H', J2, q2⟩ => exact done (v := V.non) (u := Value.none) J2 rfl q2
  | .brk, ⟨_, _, _, q2⟩ => exact False.elim q2
  | .cont, ⟨_, _, _, q2⟩ => exact False.elim q2
theorem lawG_call {P : Program} {w : World} {K : PySem.W.Frag} {mg mb : Str → Option Value} {CX : CXT} {k : Nat} {fa a : Addr} {fd : FuncData} {x : Str} {sp : Sp} {t : Shared} {us : List Value} {zs : List Int}
    (kin : K.In t.heap) (ng : t.heap.Ns mainGlobals mg) (nb : t.heap.Ns builtinsNs mb) (bb : ∀ y : Str, y ≠ "__name__" → mb y = bootBuiltins y) (nl : t.heap.NoLimit) (gn : t.gens = #[])
    (at_ : t.heap.get? a = some { cls := .type "list", data := .seq us.toArray }) (zi : IntsAre us zs) (zl : zs.length ≤ sizeLine) (rm : Room k callerA)
    (F : ∀ bs : Heap, K.In bs → bs.Ns mainGlobals mg → FnG P w K mg bs CX k fa fd [x] sp) (bd : ∀ (s : Shared) (u : Value), BindsTo s fd ⟨[u], []⟩ [(x, u)])
    (want : ∀ H : Hp, Only H → SqL K H a (zs.map V.int) → sp [.ref a] H (fun v _ => v = .bl true) fun _ _ _ => False)
    (noX : ∀ H e t', CX [] H t (fun _ _ _ => False) e t' → False) :
    codeAny (model P w) callerA (.call (.ref fa) ⟨[.ref a], []⟩) (fun r t' => r = .ok (.ret (.bool true)) ∧ OldK t.heap t'.heap ∧ t'.os = t.os ∧ AllBare t'.gens) t := by
  have rv := vals_ints zi
  have ul := zi.length
  have main : ∀ H : Hp, Only H → SqL K H a (zs.map V.int) → HOk P w H t.heap → (∀ b, H b ≠ none → b = a) → (H a ≠ none → K.lookup a = none) →
      codeAny (model P w) callerA (.call (.ref fa) ⟨[.ref a], []⟩) (fun r t' => r = .ok (.ret (.bool true)) ∧ OldK t.heap t'.heap ∧ t'.os = t.os ∧ AllBare t'.gens) t := by
    intro H on sq hk only kfree
    have bo : ∀ {b : Addr} {o : Obj}, t.heap.get? b = some o → H b = none → (hidT t.heap H).get? b = some o := fun e n => hidT_get e n
    have dictFree : ∀ {b : Addr} {o : Obj} {es : Array DictEntry} {ep : Nat}, t.heap.get? b = some o → o.data = .dict es ep → H b = none := by
      intro b o es ep e d
      cases q : H b with
      | none => rfl
      | some z =>
        have e1 : b = a := only b (by rw [q]; simp)
        rw [e1, at_] at e
        cases e
        have d1 : Data.seq us.toArray _ = Data.dict es ep := d
        cases d1
    have ns1 : ∀ {b : Addr} {m : Str → Option Value}, t.heap.Ns b m → (hidT t.heap H).Ns b m := fun {b m} ⟨o, es, ep, e, d, r⟩ => ⟨o, es, ep, bo e (dictFree e d), d, r⟩
    have kin1 : K.In (hidT t.heap H) := by
      intro b o e
      refine bo (kin b o e) ?_
      cases q : H b with
      | none => rfl
      | some z =>
        have e1 : b = a := only b (by rw [q]; simp)
        rw [e1, kfree (by rw [← e1, q]; simp)] at e
        cases e
    have md : Mod K mg (hidT t.heap H) := ⟨kin1, ns1 ng, ⟨mb, ns1 nb, bb⟩, let ⟨mc, h1, h2⟩ := nl; ⟨mc, ns1 h1, h2⟩⟩
    have ev : Env0 P w K mg (hidT t.heap H) callerA [] t H := ⟨rfl, md, fun b o e => of_hidT e, Nat.le_of_eq (hidT_size _ _), trivial, (fun b hb => by cases hb), hk, .of_eq gn⟩
    refine codeAny_mono ((F _ kin1 (ns1 ng)).run callerA [] t H ⟨[.ref a], []⟩ [.ref a] [.ref a] _ _ rfl rm ev (bd t (.ref a)) (.cons rfl .nil) (want H on sq)) fun r t' h => ?_
    match r, h with
    | .error e, h => exact (noX H e t' h).elim
    | .ok .next, h => exact False.elim h
    | .ok .brk, h => exact False.elim h
    | .ok .cont, h => exact False.elim h
    | .ok (.ret u), ⟨v, H', os, br, un, hk', r1, q1⟩ =>
      have q2 : v = .bl true := q1
      subst q2
      obtain rfl : u = Value.bool true := r1
      refine ⟨rfl, OldK.of_keep fun b o e => ?_, os, br⟩
      cases q : H b with
      | none => exact un.keep b o e q (fun z => by cases z) (fun z => by cases z)
      | some z =>
        rcases on b with n | ⟨ob, xs, n⟩
        · rw [q] at n; cases n
        · have n2 := un.frzs b ob _ n
          obtain ⟨g1, _⟩ := hk b _ n
          obtain ⟨g2, _⟩ := hk' b _ n2
          rw [e] at g1; cases g1
          exact g2
  cases kl : K.lookup a with
  | some o =>
    have e := kin a o kl
    rw [at_] at e
    cases e
    refine main (fun _ => none) (fun _ => .inl rfl) (.inr ⟨_, us.toArray, _, kl, rfl, rfl, rfl, by rw [List.size_toArray, ul]; exact zl, by simpa using rv⟩) (fun b u n => ?_) (fun b n => absurd rfl n) fun n => absurd rfl n
    have n' : (none : Option HO) = some u := n
    cases n'
  | none =>
    have yes : ∀ {b : Addr}, b = a → (fun c : Addr => if c = a then some (HO.frz { cls := .type "list", data := .seq us.toArray } (.lst (zs.map V.int))) else none) b = some (HO.frz { cls := .type "list", data := .seq us.toArray } (.lst (zs.map V.int))) := fun e => if_pos e
    have no : ∀ {b : Addr}, ¬ b = a → (fun c : Addr => if c = a then some (HO.frz { cls := .type "list", data := .seq us.toArray } (.lst (zs.map V.int))) else none) b = none := fun e => if_neg e
    generalize (fun c : Addr => if c = a then some (HO.frz { cls := .type "list", data := .seq us.toArray } (.lst (zs.map V.int))) else none) = HH at yes no
    refine main HH (fun b => ?_) (.inl (.inr ⟨_, yes rfl⟩)) (fun b u n => ?_) (fun b n => ?_) fun _ => kl
    · by_cases e : b = a
      · exact .inr ⟨_, _, yes e⟩
      · exact .inl (no e)
    · by_cases e : b = a
      · rw [yes e] at n
        cases n
        subst e
        exact ⟨at_, by rw [List.length_map]; exact zl, us, _, rv, at_⟩
      · rw [no e] at n; cases n
    · by_cases e : b = a
      · exact e
      · exact absurd (no e) n
theorem walk_ofG {l : PySem.W.OpenLaw} {n k : Nat} {q : Program} {loose : List Str} {XP : (Str → Option Value) → Heap → Prop} {YP : World → Heap → Prop} {d : DefRec} {CX : CXT} {x : Str}
    (m1 : l.most = some n) (m2 : n ≤ sizeLine) (nodf : d.params.defaults = []) (rm : Room k callerA)
    (F : ∀ (w : World) (mg : Str → Option Value) (fa : Addr) (h : Heap), YP w h → h.Ns mainGlobals mg → mg d.name = some (.ref fa) →
      ∃ (K : PySem.W.Frag) (fd : FuncData) (sp : Sp), K.In h ∧ (∀ (s : Shared) (u : Value), BindsTo s fd ⟨[u], []⟩ [(x, u)]) ∧
        (∀ (H : Hp) (a : Addr) (zs : List Int), zs.length ≤ n → Only H → SqL K H a (zs.map V.int) → sp [.ref a] H (fun v _ => v = .bl true) fun _ _ _ => False) ∧
        ∀ bs : Heap, K.In bs → bs.Ns mainGlobals mg → FnG l.prog w K mg bs CX k fa fd [x] sp)
    (noX : ∀ (H : Hp) (s : Shared) (e : Value) (t : Shared), CX [] H s (fun _ _ _ => False) e t → False) :
    PySem.W.WalkO q loose XP YP l.row.toRowW d [] (fun f us => PySem.call f us) := by
  refine Att.attach_call m1 nodf fun w s0 t mg mb fa o pm cd doc a us zs G Y ho hd hcd hmg hobj zi zl hg => ?_
  obtain ⟨K, fd, sp, kin, bd, want, hF⟩ := F w mg fa _ Y G.T.g hmg
  exact lawG_call kin G.T.g G.T.b G.T.builtins G.T.nolimit hg hobj zi (Nat.le_trans zl m2) rm hF bd (fun H on sq => want H a zs zl on sq) fun H e t' => noX H t e t'
/-- a law's body -/
theorem law_g {P : Program} {w : World} {K : PySem.W.Frag} {mg : Str → Option Value} {base : Heap} {CX : CXT} {n qual : Str} {params : Arguments} {body : List Stmt} {scope : Scope} {dvs : List V} {kws : List (Str × V)} {f : Addr} {fd : FuncData} {N ps : List Str} {k : Nat} {C : CExc} {b : Fr → SRes}
    (F : FunD K n qual params body scope dvs kws f fd) (S : FnScope N ps scope)
    (hb : ∀ (cdv : Value) (A : Around) (outer : List Env) (s : Shared) (H : Hp) (E : XK), (A.deeper (envOfC qual scope s.heap.objs.size f cdv)).guards = some [] → Room k (A.deeper (envOfC qual scope s.heap.objs.size f cdv)) →
      ASs (cxOf CX P w K mg base N qual scope f cdv A outer s H E) ⟨fun cl d _ H' => E cl d H', C⟩ body b) :
    FnG P w K mg base CX (k + 1) f fd ps (spF ⟨P, w, K⟩ C (mkFun N.length ps.length b) ps.length) :=
  fnG_of F S (fun vs H Q E h => h.1) fun cdv A outer s H vs Q E gd hr hsp => ⟨_, hb cdv A outer s H E gd hr, body_g hsp⟩
end G
/-! HO: lists joined to a new one; tuples repeated. -/
namespace G
open PySem PySem.Spec PyProof.Rows L2

@[simp] def xCatF (f g : Fr → Res AV) : Fr → Res AV := fun fr => (f fr).bind fun a fr1 => (g fr1).bind fun b fr2 => match fr2.view a, fr2.view b with
  | some (.list xs), some (.list ys) => if xs.length + ys.length ≤ 1000000 then .ok (.cel fr2.cells.length) (fr2.newc (.lst (xs ++ ys))) else .err
  | _, _ => .err
def rCatF (K : PySem.W.Frag) : R2 := fun x y H Q => ∃ (a b : Addr) (xs ys : List V), x = .ref a ∧ y = .ref b ∧ SqL K H a xs ∧ SqL K H b ys ∧ xs.length + ys.length ≤ sizeLine ∧ ∀ p, H p = none → Q (.ref p) (upd H p (.lst (xs ++ ys)))
def dRepT : PyData → PyData → Option PyData
  | .tuple xs, .int k => if xs ≠ [] ∧ 2 ≤ k ∧ k ≤ 1000 ∧ xs.length ≤ 1000 then some (.tuple (List.replicate k.toNat xs).flatten) else none
  | _, _ => none
section
variable {X : Cx} {x : XW} {a b d : Expr} {f g h : Fr → Res AV} {pos : Pos}
theorem o_catF : OpR X (binaryOp .Add) (rCatF X.K) := by
  intro pins s σ H xv yv v u Q I rx ry ⟨l, m, xs, ys, e1, e2, h1, h2, hz, q⟩
  subst e1 e2
  cases rx; cases ry
  exact lists_cat I h1 h2 hz q
theorem ae_catF (ha : AE X x a f) (hb : AE X x b g) : AE X x (.BinOp a .Add b pos) (xCatF f g) := by
  refine (pe_op o_catF ha hb).imp fun σ H Q ⟨c, fr, ad, F, o⟩ => ?_
  refine ⟨c, fr, ad, F, (Out.bind F o).mono fun av fr1 ad1 H1 F1 m1 o1 v rv => ?_⟩
  refine ⟨c, fr1, ad1, F1, (Out.bind F1 o1).mono fun bv fr2 ad2 H2 F2 m2 o2 u ru => ?_⟩
  have rv2 := RepA.mv F1 m2 rv
  cases q1 : fr2.view av with
  | none => rw [q1] at o2; exact o2.elim
  | some dx =>
    cases q2 : fr2.view bv with
    | none => rw [q1, q2] at o2; cases dx <;> exact o2.elim
    | some dy =>
      rw [q1, q2] at o2
      cases dx with
      | list xs =>
        cases dy with
        | list ys =>
          simp only at o2
          split at o2
          · rename_i hz
            obtain ⟨l, vs, rfl, s1, z1, r1⟩ := (view_rep F2 rv2 q1).list
            obtain ⟨m, ws, rfl, s2, z2, r2⟩ := (view_rep F2 ru q2).list
            have e1 := r1.length
            have e2 := r2.length
            refine ⟨l, m, vs, ws, rfl, rfl, s1, s2, sz6 (by omega), fun p hp => ?_⟩
            have F3 := F2.newc (o := .lst (vs ++ ws)) (cl := .lst (xs ++ ys)) hp fun ok hok => ⟨vs ++ ws, upd_same, by rw [List.length_append]; exact sz6 hz, (r1.append r2).keep ⟨fun b u h1 h2 => ⟨hok b u h1 h2, Grow.new hp b u h2⟩, (Grow.new hp).keep (ok := okP c ad2) |>.t⟩⟩
            exact o2 _ _ F3 (mv_new hp) _ (newc_at (cl := .gone) F2)
          · exact o2.elim
        | _ => exact o2.elim
      | _ => exact o2.elim
theorem o_repT : OpR X (binaryOp .Mult) (rOp2 X.K dRepT) := by
  intro pins s σ H xv yv v u Q I rx ry ⟨ok, dx, dy, r, hok, hx, hy, e, q⟩
  cases dx with
  | tuple xs =>
    cases dy with
    | int k =>
      simp only [dRepT] at e
      split at e
      · rename_i hz
        obtain ⟨z1, z2, z3, z4⟩ := hz
        cases e
        obtain ⟨l, vs, rfl, h1, z5, r1⟩ := hx.tuple
        cases hy.int
        have e1 := r1.length
        have hk : k.toNat * xs.length ≤ 1000 * 1000 := Nat.mul_le_mul (by omega) z4
        refine op_repT pins s σ H _ _ v u Q I rx ry ⟨l, k, vs, rfl, rfl, h1, fun z => z1 (List.eq_nil_of_length_eq_zero (by rw [← e1, z]; rfl)), z2, z3, by omega, fun p hp => ?_⟩
        exact q _ _ (Grow.new hp) (.tup (SqT.of upd_same) (by simp only [List.length_flatten, List.map_replicate, List.sum_replicate_nat]; exact sz6 (by omega)) (RepL.keep (Grow.new hp).keep (r1.rep k.toNat)))
      · cases e
    | _ => cases e
  | _ => cases e
end
end G
/-! HP: exceptions of own classes, with fields: made, raised, let through. -/
namespace G
open PySem PySem.Spec PyProof.Rows L2

/-! ### a class of exceptions -/
structure ExF (K : PySem.W.Frag) (cl : Str) (fI : Addr) (fields : List Str) : Prop where
  T : OexC K (He.ga K cl)
  iC : PySem.W.findIn K (.ref (He.ga K cl)) "__init__" = some (some (.ref fI))
  tI : PySem.W.typeIn K (.ref fI) = some (.type "function")
  nf : ∀ f ∈ fields, PySem.W.findIn K (.ref (He.ga K cl)) f = some none
  xf : XfC K (He.ga K cl)
def oexK (K : PySem.W.Frag) (C : Addr) : Bool := match K.lookup C with
  | some ⟨.type "type", _, .cls cd, sl⟩ => (match cd.mro, sl.toList with
    | .ref C1 :: bm, [_, _, _, _, some (.builtin n), _] => decide (C1 = C) && (decide (n = "ValueError.__new__") && (!cd.hasDel && (cd.hasDict && PySem.HandSPX.refsVE bm)))
    | _, _ => false)
  | _ => false
theorem oexK_ok {K : PySem.W.Frag} {C : Addr} (h : oexK K C = true) : ∃ nm q N bs bm sn sub ab col dd k0 k1 k2 k3 k5, K.lookup C = some (excClassObj nm q C N bs bm true sn sub ab col dd k0 k1 k2 k3 k5 "ValueError.__new__") ∧ PySem.HandSPX.refsVE bm = true := by
  unfold oexK at h
  split at h
  · rename_i dd cd sl lk
    split at h
    · rename_i C1 bm k0 k1 k2 k3 n k5 e1 e2
      simp only [Bool.and_eq_true, decide_eq_true_eq, Bool.not_eq_true'] at h
      obtain ⟨rfl, rfl, nodel, hasd, rv⟩ := h
      obtain ⟨nm, bs, mro, N, q, hd, sn, sub, ab, col, del⟩ := cd
      simp only at e1 nodel hasd
      subst e1 nodel hasd
      have sl_eq : sl = #[k0, k1, k2, k3, some (.builtin "ValueError.__new__"), k5] := by
        obtain ⟨l⟩ := sl
        simp only at e2
        rw [e2]
      subst sl_eq
      exact ⟨nm, q, N, bs, bm, sn, sub, ab, col, dd, k0, k1, k2, k3, k5, lk, rv⟩
    · cases h
  · cases h
def exfK (K : PySem.W.Frag) (cl : Str) (fields : List Str) : Bool :=
  (oexK K (He.ga K cl) && xfB K (He.ga K cl)) && ((decide (PySem.W.findIn K (.ref (He.ga K cl)) "__setattr__" = some (some (.builtin "object.__setattr__"))) && decide (PySem.W.typeIn K (.ref (He.ga K cl)) = some (.type "type"))) &&
    ((PySem.W.keepIn K (.ref (He.ga K cl)) && decide (PySem.W.findIn K (.ref (He.ga K cl)) "__init__" = some (some (.ref (He.ma K (He.ga K cl) "__init__"))))) &&
      (decide (PySem.W.typeIn K (.ref (He.ma K (He.ga K cl) "__init__")) = some (.type "function")) && fields.all fun f => decide (PySem.W.findIn K (.ref (He.ga K cl)) f = some none))))
theorem exfK_ok {K : PySem.W.Frag} {cl : Str} {fields : List Str} (h : exfK K cl fields = true) : ExF K cl (He.ma K (He.ga K cl) "__init__") fields := by
  unfold exfK at h
  simp only [Bool.and_eq_true, decide_eq_true_eq, List.all_eq_true] at h
  obtain ⟨⟨h1, h2⟩, ⟨h3, h4⟩, ⟨h5, h6⟩, h7, h8⟩ := h
  have X := xfB_ok h2
  exact ⟨⟨oexK_ok h1, h3, X.exC, h4, h5⟩, h6, h7, h8, X⟩

/-! ### an exception in the air -/
/-- class cl, fields fs -/
def CG (K : PySem.W.Frag) : CExc := fun cl fs H Cv d => Cv = .ref (He.ga K cl) ∧ ∃ (dx : Addr) (vs : List (Str × V)), d = some dx ∧ H dx = some (.xd vs) ∧ ∀ f y, fs.lookup f = some y → noL y = true ∧ ∃ v, vs.lookup f = some v ∧ Rep K H (fun _ => True) v y
mutual
/-- what holds no list leans on nobody's leave -/
theorem Rep.free {K : PySem.W.Frag} {H : Hp} {ok ok' : Addr → Prop} : ∀ {v : V} {y : PyData}, noL y = true → Rep K H ok v y → Rep K H ok' v y
  | _, _, _, .non => .non
  | _, _, _, .bl b => .bl b
  | _, _, _, .int i => .int i
  | _, _, _, .str z h => .str z h
  | _, _, n, .lst _ _ _ _ => by simp [noL] at n
  | _, _, n, .tup r l rs => .tup r l (RepL.free (by simpa [noL] using n) rs)
theorem RepL.free {K : PySem.W.Frag} {H : Hp} {ok ok' : Addr → Prop} : ∀ {vs : List V} {ys : List PyData}, noLs ys = true → RepL K H ok vs ys → RepL K H ok' vs ys
  | _, _, _, .nil => .nil
  | _, _, n, .cons r rs => by
    simp only [noLs, Bool.and_eq_true] at n
    exact .cons (Rep.free n.1 r) (RepL.free n.2 rs)
end

/-! ### __init__ -/
/-- the dict behind the stores -/
def exFin (H : Hp) (a C dx : Addr) (vs : List (Str × V)) : Hp := fun b => if b = a then some (exo a C (some dx)) else if b = dx then some (exd dx vs) else H b
/-- what __init__ does: a store for each field, in their order -/
def spInit (C : Addr) (fields : List Str) : Sp := fun us H Q _ => us.length = fields.length + 1 ∧ ∃ (a : Addr) (ws : List V), us = .ref a :: ws ∧ H a = some (exo a C none) ∧ ∀ dx, H dx = none → dx ≠ a → Q .non (exFin H a C dx (fields.zip ws).reverse)
theorem exFin_one {H : Hp} {a C dx : Addr} {f : Str} {y : V} : upd (upd H dx (exd dx [(f, y)])) a (exo a C (some dx)) = exFin H a C dx [(f, y)] := by
  funext b
  unfold exFin upd
  by_cases e : b = a
  · simp [e]
  · simp [e]
theorem exFin_more {H : Hp} {a C dx : Addr} {f : Str} {y : V} {vs : List (Str × V)} (n : dx ≠ a) : upd (exFin H a C dx vs) dx (exd dx ((f, y) :: vs)) = exFin H a C dx ((f, y) :: vs) := by
  funext b
  unfold exFin upd
  by_cases e : b = dx
  · subst e
    simp [n]
  · simp [e]
section
variable {P : Program} {w : World} {K : PySem.W.Frag} {mg : Str → Option Value} {base : Heap} {cl n qual : Str} {params : Arguments} {body : List Stmt} {scope : Scope} {f : Addr} {fd : FuncData}
theorem init1 {f1 : Str} {p1 p2 p3 q1 : Pos} (F : FunD K n qual params [.Assign [.Attribute (.Name "self" p1) f1 p2] (.Name f1 p3) q1] scope [] [] f fd) (X : ExF K cl f [f1]) (S : FnScope ["self", f1] ["self", f1] scope) (v0 : Vis scope "self") (v1 : Vis scope f1)
    (d1 : (f1 == ("__debug__" : Str)) = false) (d2 : (f1 == ("__classdict__" : Str)) = false) (hw : ∀ env : Env, env.scope = scope → swapsWith (.Name f1 p3) (some (.Attribute (.Name "self" p1) f1 p2)) q1.line env = pure false) : FnOk P w K mg base CX0 1 f fd ["self", f1] (spInit (He.ga K cl) [f1]) := by
  refine F.ok S (fun vs H Q E h => h.1) fun cdv A outer s H vs Q E hr hs => ⟨_, pss_one (ps_ost (pe_var (i := 0) (x := "self") rfl v0) (pe_var (i := 1) (x := f1) rfl v1 d1 d2) (hw _ rfl)), ?_⟩
  obtain ⟨hl, a, ws, rfl, ha, q⟩ := hs
  match ws, hl with
  | [y], _ =>
    refine ⟨y, rfl, .ref a, rfl, a, He.ga K cl, rfl, X.T, X.nf f1 (by simp), .inl ⟨ha, fun dx n1 n2 => ?_⟩⟩
    rw [exFin_one]
    exact q dx n1 n2
theorem init2 {f1 f2 : Str} {p1 a1 b1 q1 p2 a2 b2 q2 : Pos} (F : FunD K n qual params [.Assign [.Attribute (.Name "self" p1) f1 a1] (.Name f1 b1) q1, .Assign [.Attribute (.Name "self" p2) f2 a2] (.Name f2 b2) q2] scope [] [] f fd) (X : ExF K cl f [f1, f2]) (S : FnScope ["self", f1, f2] ["self", f1, f2] scope) (v0 : Vis scope "self") (v1 : Vis scope f1) (d1 : (f1 == ("__debug__" : Str)) = false) (c1 : (f1 == ("__classdict__" : Str)) = false) (w1 : ∀ env : Env, env.scope = scope → swapsWith (.Name f1 b1) (some (.Attribute (.Name "self" p1) f1 a1)) q1.line env = pure false) (v2 : Vis scope f2) (d2 : (f2 == ("__debug__" : Str)) = false) (c2 : (f2 == ("__classdict__" : Str)) = false) (w2 : ∀ env : Env, env.scope = scope → swapsWith (.Name f2 b2) (some (.Attribute (.Name "self" p2) f2 a2)) q2.line env = pure false) :
    FnOk P w K mg base CX0 1 f fd ["self", f1, f2] (spInit (He.ga K cl) [f1, f2]) := by
  refine F.ok S (fun vs H Q E h => h.1) fun cdv A outer s H vs Q E hr hs => ⟨_, pss_cons (ps_ost (pe_var (i := 0) (x := "self") rfl v0) (pe_var (i := 1) (x := f1) rfl v1 d1 c1) (w1 _ rfl)) (pss_one (ps_ost (pe_var (i := 0) (x := "self") rfl v0) (pe_var (i := 2) (x := f2) rfl v2 d2 c2) (w2 _ rfl))), ?_⟩
  obtain ⟨hl, a, ws, rfl, ha, q⟩ := hs
  match ws, hl with
  | [y1, y2], _ =>
    refine ⟨y1, rfl, .ref a, rfl, a, He.ga K cl, rfl, X.T, X.nf f1 (by simp), .inl ⟨ha, fun dx n1 n2 => ?_⟩⟩
    rw [exFin_one]
    refine ⟨y2, rfl, .ref a, rfl, a, He.ga K cl, rfl, X.T, X.nf f2 (by simp), .inr ⟨dx, [(f1, y1)], by simp [exFin], by simp [exFin, n2], by simp, ?_⟩⟩
    rw [exFin_more n2]
    exact q dx n1 n2
theorem init4 {f1 f2 f3 f4 : Str} {p1 a1 b1 q1 p2 a2 b2 q2 p3 a3 b3 q3 p4 a4 b4 q4 : Pos} (F : FunD K n qual params [.Assign [.Attribute (.Name "self" p1) f1 a1] (.Name f1 b1) q1, .Assign [.Attribute (.Name "self" p2) f2 a2] (.Name f2 b2) q2, .Assign [.Attribute (.Name "self" p3) f3 a3] (.Name f3 b3) q3, .Assign [.Attribute (.Name "self" p4) f4 a4] (.Name f4 b4) q4] scope [] [] f fd) (X : ExF K cl f [f1, f2, f3, f4]) (S : FnScope ["self", f1, f2, f3, f4] ["self", f1, f2, f3, f4] scope) (v0 : Vis scope "self") (v1 : Vis scope f1) (d1 : (f1 == ("__debug__" : Str)) = false) (c1 : (f1 == ("__classdict__" : Str)) = false) (w1 : ∀ env : Env, env.scope = scope → swapsWith (.Name f1 b1) (some (.Attribute (.Name "self" p1) f1 a1)) q1.line env = pure false) (v2 : Vis scope f2) (d2 : (f2 == ("__debug__" : Str)) = false) (c2 : (f2 == ("__classdict__" : Str)) = false) (w2 : ∀ env : Env, env.scope = scope → swapsWith (.Name f2 b2) (some (.Attribute (.Name "self" p2) f2 a2)) q2.line env = pure false) (v3 : Vis scope f3) (d3 : (f3 == ("__debug__" : Str)) = false) (c3 : (f3 == ("__classdict__" : Str)) = false) (w3 : ∀ env : Env, env.scope = scope → swapsWith (.Name f3 b3) (some (.Attribute (.Name "self" p3) f3 a3)) q3.line env = pure false) (v4 : Vis scope f4) (d4 : (f4 == ("__debug__" : Str)) = false) (c4 : (f4 == ("__classdict__" : Str)) = false) (w4 : ∀ env : Env, env.scope = scope → swapsWith (.Name f4 b4) (some (.Attribute (.Name "self" p4) f4 a4)) q4.line env = pure false) :
    FnOk P w K mg base CX0 1 f fd ["self", f1, f2, f3, f4] (spInit (He.ga K cl) [f1, f2, f3, f4]) := by
  refine F.ok S (fun vs H Q E h => h.1) fun cdv A outer s H vs Q E hr hs => ⟨_, pss_cons (ps_ost (pe_var (i := 0) (x := "self") rfl v0) (pe_var (i := 1) (x := f1) rfl v1 d1 c1) (w1 _ rfl)) (pss_cons (ps_ost (pe_var (i := 0) (x := "self") rfl v0) (pe_var (i := 2) (x := f2) rfl v2 d2 c2) (w2 _ rfl)) (pss_cons (ps_ost (pe_var (i := 0) (x := "self") rfl v0) (pe_var (i := 3) (x := f3) rfl v3 d3 c3) (w3 _ rfl)) (pss_one (ps_ost (pe_var (i := 0) (x := "self") rfl v0) (pe_var (i := 4) (x := f4) rfl v4 d4 c4) (w4 _ rfl))))), ?_⟩
  obtain ⟨hl, a, ws, rfl, ha, q⟩ := hs
  match ws, hl with
  | [y1, y2, y3, y4], _ =>
    refine ⟨y1, rfl, .ref a, rfl, a, He.ga K cl, rfl, X.T, X.nf f1 (by simp), .inl ⟨ha, fun dx n1 n2 => ?_⟩⟩
    rw [exFin_one]
    refine ⟨y2, rfl, .ref a, rfl, a, He.ga K cl, rfl, X.T, X.nf f2 (by simp), .inr ⟨dx, [(f1, y1)], by simp [exFin], by simp [exFin, n2], by simp, ?_⟩⟩
    rw [exFin_more n2]
    refine ⟨y3, rfl, .ref a, rfl, a, He.ga K cl, rfl, X.T, X.nf f3 (by simp), .inr ⟨dx, [(f2, y2), (f1, y1)], by simp [exFin], by simp [exFin, n2], by simp, ?_⟩⟩
    rw [exFin_more n2]
    refine ⟨y4, rfl, .ref a, rfl, a, He.ga K cl, rfl, X.T, X.nf f4 (by simp), .inr ⟨dx, [(f3, y3), (f2, y2), (f1, y1)], by simp [exFin], by simp [exFin, n2], by simp, ?_⟩⟩
    rw [exFin_more n2]
    exact q dx n1 n2
end
/-! ### raise -/
@[simp] def sRaise (cl : Str) (fields : List Str) (gs : Fr → Res (List AV)) : Fr → SRes := fun fr => (gs fr).toS fun as fr1 => match dats as with
  | some xs => if xs.length = fields.length ∧ noLs xs = true then .exc cl (fields.zip xs) fr1 else .err
  | none => .err
theorem rev_look {α : Type} (g : Str) : ∀ l : List (Str × α), (l.map (·.1)).Nodup → l.reverse.lookup g = l.lookup g
  | [], _ => rfl
  | (f, w) :: l, nd => by
    obtain ⟨n1, n2⟩ := List.nodup_cons.mp (show (f :: l.map (·.1)).Nodup from nd)
    rw [List.reverse_cons, List.lookup_append, rev_look g l n2]
    simp only [List.lookup_cons, List.lookup_nil]
    cases q : g == f with
    | false => cases l.lookup g <;> rfl
    | true =>
      have e : g = f := by simpa using q
      subst e
      have : l.lookup g = none := by
        rw [List.lookup_eq_none_iff]
        intro z hz
        have : z.1 ≠ g := fun e => n1 (e ▸ List.mem_map.mpr ⟨z, hz, rfl⟩)
        simpa using fun e : g = z.1 => this e.symm
      rw [this]; rfl
theorem zip_keys {fields : List Str} {α : Type} (nd : fields.Nodup) (ws : List α) : ((fields.zip ws).map (·.1)).Nodup := by
  have key : ∀ (fs : List Str) (ws : List α), List.Sublist ((fs.zip ws).map (·.1)) fs := fun fs => by
    induction fs with
    | nil => intro ws; simp
    | cons f fs ih =>
      intro ws
      cases ws with
      | nil => simp
      | cons w ws => simpa using ih ws
  exact (key fields ws).nodup nd
theorem zip_rev_look {fields : List Str} {α : Type} (nd : fields.Nodup) (ws : List α) (g : Str) : ((fields.zip ws).reverse).lookup g = (fields.zip ws).lookup g := rev_look g _ (zip_keys nd ws)
theorem look_rep {K : PySem.W.Frag} {H : Hp} {ok : Addr → Prop} : ∀ {fields : List Str} {vs : List V} {xs : List PyData}, RepL K H ok vs xs → noLs xs = true → ∀ {g : Str} {y : PyData}, (fields.zip xs).lookup g = some y → noL y = true ∧ ∃ v, (fields.zip vs).lookup g = some v ∧ Rep K H ok v y
  | [], _, _, _, _, g, y, e => by simp at e
  | f :: fs, _, _, .nil, _, g, y, e => by simp at e
  | f :: fs, _, _, .cons r rs, n, g, y, e => by
    simp only [noLs, Bool.and_eq_true] at n
    simp only [List.zip_cons_cons, List.lookup_cons] at e ⊢
    cases q : g == f with
    | true =>
      rw [q] at e
      cases e
      exact ⟨n.1, _, rfl, r⟩
    | false =>
      rw [q] at e
      exact look_rep rs n.2 e
section
variable {X : Cx} {x : XW} {a : Expr} {es : List Expr} {gs : Fr → Res (List AV)}
theorem as_raise {cl : Str} {fields : List Str} {fI : Addr} {fd : FuncData} {ps : List Str} {p1 p2 p3 : Pos} (T : ExF X.K cl fI fields) (F1 : FnOk X.prog X.w X.K X.mg X.base CX0 1 fI fd ps (spInit (He.ga X.K cl) fields)) (hb : Binds X.K fd ps []) (nd : fields.Nodup) (hl : fields.length ≤ 100)
    (hc : X.calm = true) (hr : Room 2 X.A) (tk : Takes X x.W) (hC : x.C = CG X.K) (hg : Gl X cl) (hm : X.mg cl = some (.ref (He.ga X.K cl))) (ha : AA X x (a :: es) gs) (hdb : (cl == ("__debug__" : Str)) = false := by decide) (he : starEach (a :: es) X.env = (false, eval a X.env) :: starEach es X.env := by rfl) (hpl : (backTo p2 (starEach es X.env)).any (·.1) = false := by rfl) :
    AS X x (.Raise (some (.Call (.Name cl p1) (a :: es) [] p2)) none p3) (sRaise cl fields gs) := by
  refine (ps_raise hc tk (pmk_oex T.T T.iC T.tI F1 hr hb .nil (fun _ _ _ _ _ _ _ z => z.elim) hg hm ha hdb he hpl)).imp fun D σ H ⟨c, fr, ad, F, o⟩ => ?_
  refine ⟨c, fr, ad, F, (SOut.of F o).mono fun as fr1 ad1 H1 F1 m1 o1 vs rvs => ?_⟩
  cases q : dats as with
  | none => rw [q] at o1; exact o1.elim
  | some xs =>
    rw [q] at o1
    simp only at o1
    split at o1
    · rename_i hz
      obtain ⟨z1, z2⟩ := hz
      have rl := dats_rep rvs q
      have vl := rl.length
      refine ⟨by omega, fun ea na => ?_⟩
      rw [List.append_nil]
      refine ⟨by simp; omega, ea, vs, rfl, upd_same, fun dx n1 n2 => ?_⟩
      have n3 : H1 dx = none := by rw [upd_ne n2] at n1; exact n1
      refine ⟨rfl, dx, (fields.zip vs).reverse, by simp [exFin], by simp [exFin, n2], n3, ?_⟩
      have fin : (upd (del (exFin (upd H1 ea (exo ea (He.ga X.K cl) none)) ea (He.ga X.K cl) dx (fields.zip vs).reverse) ea) dx (.xd (fields.zip vs).reverse)) = upd H1 dx (.xd (fields.zip vs).reverse) := by
        funext b
        unfold upd del exFin
        by_cases e1 : b = dx
        · simp [e1]
        · by_cases e2 : b = ea
          · subst e2
            simp [e1, na]
          · simp [e1, e2, upd]
      rw [fin]
      have gr : Grow H1 (upd H1 dx (.xd (fields.zip vs).reverse)) := Grow.new n3
      refine o1 _ _ _ _ _ (F1.grow gr) ?_
      rw [hC]
      refine ⟨rfl, dx, _, rfl, upd_same, fun g y hy => ?_⟩
      obtain ⟨k1, v, k2, k3⟩ := look_rep rl z2 hy
      exact ⟨k1, v, by rw [zip_rev_look nd]; exact k2, Rep.free k1 (k3.keep gr.keep)⟩
    · exact o1.elim
end
end G
/-! HQ: try with clauses of any kind: one class, several; with a name, without. -/
namespace G
open PySem PySem.Spec PyProof.Rows L2

/-- what an except clause tests for -/
inductive TstG (X : Cx) : Expr → List Value → Prop
  | one {x : Str} {c : Addr} {p : Pos} (g : Gl X x) (m : X.mg x = some (.ref c)) (d : (x == ("__debug__" : Str)) = false) : TstG X (.Name x p) [.ref c]
  | two {x y : Str} {c e : Addr} {p q t : Pos} {kk : Nat} (g : Gl X x) (m : X.mg x = some (.ref c)) (d : (x == ("__debug__" : Str)) = false) (g2 : Gl X y) (m2 : X.mg y = some (.ref e)) (d2 : (y == ("__debug__" : Str)) = false) : TstG X (.Tuple [.Name x p, .Name y q] kk t) [.ref c, .ref e]
  | three {x y z : Str} {c e f : Addr} {p q r t : Pos} {kk : Nat} (g : Gl X x) (m : X.mg x = some (.ref c)) (d : (x == ("__debug__" : Str)) = false) (g2 : Gl X y) (m2 : X.mg y = some (.ref e)) (d2 : (y == ("__debug__" : Str)) = false) (g3 : Gl X z) (m3 : X.mg z = some (.ref f)) (d3 : (z == ("__debug__" : Str)) = false) : TstG X (.Tuple [.Name x p, .Name y q, .Name z r] kk t) [.ref c, .ref e, .ref f]
/-- a clause's suite begins, ends -/
def sufB (io : Option Nat) (a : Addr) (σ : L2.St) : L2.St := match io with
  | none => σ
  | some i => σ.set i (some (.ref a))
def sufE (io : Option Nat) (D : Ends) : Ends := match io with
  | none => D
  | some i => { nx := fun τ H' => D.nx (τ.set i none) H', rt := D.rt, bk := fun τ H' => D.bk (τ.set i none) H', ct := fun τ H' => D.ct (τ.set i none) H' }
abbrev Cla : Type := List Value × Option Nat × (Addr → Value → Option Addr → TS)
/-- what the clauses wish of what the body raises -/
def wCl (K : PySem.W.Frag) (Wo : WX) (D : Ends) : List Cla → WX
  | [] => Wo
  | q :: r => fun cls d σ H => ∃ b, PySem.W.exmAny K cls q.1 = some b ∧ (b = true → ∀ a, H a = none → q.2.2 a cls d (sufE q.2.1 D) (sufB q.2.1 a σ) H) ∧ (b = false → wCl K Wo D r cls d σ H)
def NmOk (X : Cx) : Option Nat → Option Str → Prop
  | none, none => True
  | some i, some n => X.N[i]? = some n ∧ X.env.kindOf n = some .local
  | _, _ => False
inductive Clas (X : Cx) : List ExceptHandler → List Cla → Prop
  | nil : Clas X [] []
  | cons {e : Expr} {cs : List Value} {io : Option Nat} {nm : Option Str} {ts : Addr → Value → Option Addr → TS} {b : Stmt} {su : List Stmt} {p : Pos} {hs : List ExceptHandler} {l : List Cla} (t : TstG X e cs) (n : NmOk X io nm)
      (s : ∀ (a : Addr) (oe : Obj) (cls : Value) (d : Option Addr) (pn : List (Addr × Obj)), Zc cls d oe → (∃ vs, oe.data = .fields vs) → PSs (X.suite a ((a, oe) :: pn)) (b :: su) (ts a cls d)) (r : Clas X hs l) :
      Clas X (.ExceptHandler (some e) nm (b :: su) p :: hs) ((cs, io, ts) :: l)
theorem fly_keeps {B h h' : Heap} {l : List Env} {a : Addr} {Z : Obj → Prop} (f : PySem.HandSPX.FlyingZ B l a Z h) (k : ∀ b o, h.get? b = some o → h'.get? b = some o) : PySem.HandSPX.FlyingZ B l a Z h' := by
  obtain ⟨f1, f2, f3, oe, vs, T, oT, ts, g1, g2, g3, g4, g5, g6, g7, g8⟩ := f
  exact ⟨fun b o q => k b o (f1 b o q), f2, Heap.FunFrames.of_keeps (fun b o q _ => ⟨o, k b o q, rfl⟩) f3, oe, vs, T, oT, ts, k _ _ g1, g2, g3, g4, g5, g6, k _ _ g7, g8⟩
section
variable {X : Cx} {pins : List (Addr × Obj)} {σ : L2.St} {H : Hp} {s : Shared}
theorem tst_run {e : Expr} {cs : List Value} (t : TstG X e cs) {a : Addr} {oe : Obj} {pn : List (Addr × Obj)} {cls : Value} {b : Bool} {Q : Bool → Shared → Prop} {E E2 : Value → Shared → Prop} (S : Inv (X.suite a ((a, oe) :: pn)) pins σ H s) (kin : X.K.In s.heap) (lt : PySem.W.Looks (model X.prog X.w) s.heap (typeOf (.ref a)) cls) (hb : PySem.W.exmAny X.K cls cs = some b)
    (q : ∀ s2 : Shared, (∀ c o, s.heap.get? c = some o → s2.heap.get? c = some o) → s2.os = s.os → s2.gens = s.gens → Q b s2) :
    wpAny (model X.prog X.w) (X.A.mark (some (.ref a))) (eval e X.env) (fun c s1 => wpAny (model X.prog X.w) (X.A.mark (some (.ref a))) (excMatches (.ref a) c) Q E s1) E2 s := by
  cases t with
  | @one x c p g m d =>
    refine ld_glob (X := X.suite a ((a, oe) :: pn)) S g m ?_ d
    obtain ⟨b1, d1, h1, h2, h3⟩ := PySem.W.exmAny_cons hb
    have z : some false = some d1 := h2
    cases z
    subst h3
    rw [Bool.or_false] at q
    exact (PySem.W.exm_one kin lt h1).here (q s (fun _ _ z => z) rfl rfl)
  | @two x y c e2 p q1 t kk g m d g2 m2 d2 =>
    refine wpAny_Tuple ?_
    refine wpAny_items_cons (ld_glob (X := X.suite a ((a, oe) :: pn)) S g m ?_ d)
    refine wpAny_items_cons (ld_glob (X := X.suite a ((a, oe) :: pn)) S g2 m2 ?_ d2)
    refine wpAny_items_nil ⟨by size_fits, ?_⟩
    have kp : ∀ c1 o, s.heap.get? c1 = some o → (s.heap.push { cls := .type "tuple", data := .seq [Value.ref c, Value.ref e2].toArray }).get? c1 = some o := fun _ _ z => Heap.get?_push_of_some _ z
    exact (PySem.W.exm_tup2 (kin.keeps kp) (lt.keeps kp) (Heap.get?_push_size s.heap rfl) hb).here (q _ kp rfl rfl)
  | @three x y z c e2 f p q1 r t kk g m d g2 m2 d2 g3 m3 d3 =>
    refine wpAny_Tuple ?_
    refine wpAny_items_cons (ld_glob (X := X.suite a ((a, oe) :: pn)) S g m ?_ d)
    refine wpAny_items_cons (ld_glob (X := X.suite a ((a, oe) :: pn)) S g2 m2 ?_ d2)
    refine wpAny_items_cons (ld_glob (X := X.suite a ((a, oe) :: pn)) S g3 m3 ?_ d3)
    refine wpAny_items_nil ⟨by size_fits, ?_⟩
    have kp : ∀ c1 o, s.heap.get? c1 = some o → (s.heap.push { cls := .type "tuple", data := .seq [Value.ref c, Value.ref e2, Value.ref f].toArray }).get? c1 = some o := fun _ _ z => Heap.get?_push_of_some _ z
    exact (PySem.W.exm_tup3 (kin.keeps kp) (lt.keeps kp) (Heap.get?_push_size s.heap rfl) hb).here (q _ kp rfl rfl)
/-- an exception looked at by the clauses, one after the other -/
theorem clauses_run {hds : List ExceptHandler} {l : List Cla} {D : Ends} {Wo : WX} (hs : X.stack = X.env :: X.outer) (hf : X.env.frame = some X.env.locals) (hN : X.N.Nodup) (tk : Takes X Wo) (ok : X.Ok)
    {a : Addr} {B : Heap} {sI : Shared} {cls : Value} {d : Option Addr} (J : Inv X pins σ H sI) (nb : ∀ b o, sI.heap.get? b = some o → b ∉ frs X.stack → B.get? b = some o) (na : H a = none) (C : Clas X hds l) :
    ∀ s : Shared, PySem.HandSPX.FlyingZ B (X.env :: X.outer) a (Zc cls d) s.heap → sI.heap.UpToSlots s.heap → s.os = sI.os → AllBare s.gens → wCl X.K Wo D l cls d σ H → wpAny (model X.prog X.w) X.A (handleBy (.ref a) X.env hds) (SP X pins D) X.xe s := by
  induction C with
  | nil =>
    intro s fl up os ag w
    refine wpAny_handleBy_nil ?_
    obtain ⟨_, _, _, oe, vs, T, oT, ts, g1, g2, g3, g4, _⟩ := id fl
    unfold PySem.passOn
    refine wpAny_bind (wpAny_field g1 g3 g4 ?_)
    rw [if_neg (show ¬ ((Value.ref T == Value.none) = true) from by simp)]
    have last : wpAny (model X.prog X.w) X.A (setFlight (.ref a) X.env.frame) (fun _ t => wpAny (model X.prog X.w) X.A (throw (.ref a) : Sem Flow) (SP X pins D) X.xe t) X.xe s := by
      rw [hf]
      refine PySem.HandSPX.setFlight_upZ fl fun h4 held up4 => wpAny_throw (tk _ _ ⟨a, B, sI, pins, σ, H, cls, d, rfl, J, nb, up.trans up4, .inr (.inr ?_), na, os, ag, w⟩)
      rw [hs]
      exact held
    first
      | exact wpAny_bind (wpAny_pure (wpAny_bind last))
      | exact wpAny_bind last
  | @cons e cs io nm ts b0 su p hds2 l2 t hn hsu r ih =>
    intro s fl up os ag w
    obtain ⟨b, hb, yes, no⟩ := w
    have off : ∀ {h : Heap} {o : Obj} {vs : Array Value}, h.FunFrames B (X.env :: X.outer) → h.get? a = some o → o.data = .fields vs → a ∉ frs (X.env :: X.outer) := by
      intro h o vs ff e1 e2 m
      obtain ⟨_, o2, e3, nf⟩ := ff.mem m
      rw [e1] at e3
      cases e3
      exact nf _ e2
    obtain ⟨oe, vs, g1, g2, g3⟩ := fl.there
    have nfr := off fl.2.2.1 g1 g3
    have nL : a ≠ X.env.locals := fun z => nfr (List.mem_filterMap.mpr ⟨X.env, List.mem_cons_self, by rw [hf, z]⟩)
    have nF : a ∉ X.fs := fun m => by
      obtain ⟨e1, m1, q⟩ := List.mem_filterMap.mp m
      exact nfr (List.mem_filterMap.mpr ⟨e1, List.mem_cons_of_mem _ m1, q⟩)
    have J1 : Inv X pins σ H s := J.landed nb fl.1 up os ag
    have S1 := J1.suite g1 g3 na nL nF
    have lt : PySem.W.Looks (model X.prog X.w) s.heap (typeOf (.ref a)) cls := fun A1 Q1 E1 t1 k1 q1 => wpAny_typeOf_ref (k1 _ _ g1) (by rw [g2.1]; exact q1)
    refine wpAny_handleBy_cons (codeAny_handlers_test ?_) (by intro z; cases z)
    refine tst_run t S1 J1.kIn lt hb fun s2 k2 os2 gs2 => ?_
    have fl2 := fly_keeps fl k2
    have up2 := up.trans (Heap.UpToSlots.of_keeps k2)
    have osx : s2.os = sI.os := os2.trans os
    have agx : AllBare s2.gens := by rw [gs2]; exact ag
    cases b with
    | false =>
      show wpAny _ X.A (handleBy (.ref a) X.env hds2) _ _ _
      exact ih s2 fl2 up2 osx agx (no rfl)
    | true =>
      have y := yes rfl a na
      match io, nm, hn with
      | none, none, _ =>
        refine codeAny_handlers_suite ?_
        refine PySem.HandSPX.lands_againZ fl2 fun h4 fl4 up4 => ?_
        have J4 : Inv X pins σ H { s2 with heap := h4 } := J.landed nb fl4.1 (up2.trans up4) osx agx
        obtain ⟨oe4, vs4, w1, w2, w3⟩ := fl4.there
        have S4 := J4.suite w1 w3 na nL nF
        refine wpAny_mono ((hsu a oe4 cls d (X.pn ++ pins) w2 ⟨_, w3⟩).run [] _ _ H _ S4 y) (fun f s6 z => ?_) (fun _ _ z => False.elim z)
        match f, z with
        | .next, ⟨τ, H6, S6, q6⟩ => exact ⟨_, _, S6.unsuite ok, q6⟩
        | .brk, ⟨τ, H6, S6, q6⟩ => exact ⟨_, _, S6.unsuite ok, q6⟩
        | .cont, ⟨τ, H6, S6, q6⟩ => exact ⟨_, _, S6.unsuite ok, q6⟩
        | .ret u, ⟨v6, τ, H6, S6, r6, q6⟩ => exact ⟨_, _, _, S6.unsuite ok, r6, q6⟩
      | some i, some n, ⟨hi, hln⟩ =>
        refine codeAny_handlers_suite_as ?_
        refine PySem.HandSPX.lands_againZ fl2 fun h4 fl4 up4 => ?_
        have J4 : Inv X pins σ H { s2 with heap := h4 } := J.landed nb fl4.1 (up2.trans up4) osx agx
        obtain ⟨oe4, vs4, w1, w2, w3⟩ := fl4.there
        have S4 := J4.suite w1 w3 na nL nF
        refine store_ok (X := X.suite a ((a, oe4) :: (X.pn ++ pins))) (v := .ref a) S4 hN hi (.inl hln) rfl (fun s5 S5 => ?_) (.inr hln)
        refine wpAny_mono ((hsu a oe4 cls d (X.pn ++ pins) w2 ⟨_, w3⟩).run [] s5 _ H _ S5 y) (fun f s6 z => ?_) (fun _ _ z => False.elim z)
        have back : ∀ {τ : L2.St} {H6 : Hp} {R : Shared → Prop}, Inv (X.suite a ((a, oe4) :: (X.pn ++ pins))) [] τ H6 s6 → (∀ s7, Inv X pins (τ.set i none) H6 s7 → R s7) → wpAny (model X.prog X.w) X.A (do bindName X.env n .none; unbindBehindTheSuite X.env n p) (fun _ s7 => R s7) X.xe s6 :=
          fun {τ H6 R} S6 hq => gone_ok (S6.unsuite ok) hN hi hln hq
        match f, z with
        | .next, ⟨τ, H6, S6, q6⟩ => exact back S6 fun s7 J7 => ⟨_, _, J7, q6⟩
        | .brk, ⟨τ, H6, S6, q6⟩ => exact back S6 fun s7 J7 => ⟨_, _, J7, q6⟩
        | .cont, ⟨τ, H6, S6, q6⟩ => exact back S6 fun s7 J7 => ⟨_, _, J7, q6⟩
        | .ret u, ⟨v6, τ, H6, S6, r6, q6⟩ => exact back S6 fun s7 J7 => ⟨_, _, _, J7, r6, q6⟩
theorem ps_try_cl {body : List Stmt} {h₀ : ExceptHandler} {hds : List ExceptHandler} {l : List Cla} {pos : Pos} {tb : WX → TS} {Wo : WX} (hs : X.stack = X.env :: X.outer) (hf : X.env.frame = some X.env.locals) (hN : X.N.Nodup) (tk : Takes X Wo)
    (hb : ∀ (W : WX) (pn : List (Addr × Obj)) (xe : Value → Shared → Prop), Takes (X.tr pn xe) W → PassesOwn (model X.prog X.w) X.A X.env xe → PSs (X.tr pn xe) body (tb W)) (C : Clas X (h₀ :: hds) l) :
    PS X (.Try body (h₀ :: hds) [] [] pos) (fun D σ H => tb (wCl X.K Wo D l) D σ H) := by
  refine ⟨fun pins s σ H D I h => wpAny_Try_except ?_⟩
  have ok := I.ok
  have fr1 : X.A.frames = some (X.env :: X.outer) := by rw [ok.frames, hs]
  let catch_ : Value → Shared → Prop := fun u t1 => wpAny (model X.prog X.w) X.A (noteFrame u X.env) (fun _ t2 => wpAny (model X.prog X.w) X.A (setFlight u none) (fun _ t3 => wpAny (model X.prog X.w) X.A (handleBy u X.env (h₀ :: hds)) (SP X pins D) X.xe t3) X.xe t2) X.xe t1
  have caught : Takes (X.tr (X.pn ++ pins) catch_) (wCl X.K Wo D l) := by
    rintro u t1 ⟨a, B, sI, pins2, τ, H2, cls, d, rfl, J2, nb, up, sky, na, os, ag, w⟩
    have J : Inv X pins τ H2 sI := J2.ofTry ok
    have sky2 : Sky B (X.env :: X.outer) a (Zc cls d) X.env.locals t1.heap := by rw [← hs]; exact sky
    show wpAny (model X.prog X.w) X.A (noteFrame (.ref a) X.env) _ _ _
    refine Sky.land Zc.steady fr1 hf sky2 fun h3 fl3 up3 => ?_
    exact clauses_run hs hf hN tk ok J nb na C { t1 with heap := h3 } fl3 (up.trans up3) os ag w
  refine wpAny_mono ((hb _ (X.pn ++ pins) catch_ caught PassesOwn.looking).run [] s σ H D (I.toTry _) h) (fun f t1 z => ?_) (fun u t1 z => z)
  match f, z with
  | .next, ⟨τ, H2, J2, q⟩ => exact wpAny_execs_nil ⟨τ, H2, J2.ofTry ok, q⟩
  | .brk, ⟨τ, H2, J2, q⟩ => exact ⟨τ, H2, J2.ofTry ok, q⟩
  | .cont, ⟨τ, H2, J2, q⟩ => exact ⟨τ, H2, J2.ofTry ok, q⟩
  | .ret u, ⟨v, τ, H2, J2, r, q⟩ => exact ⟨v, τ, H2, J2.ofTry ok, r, q⟩
end
end G
/-! HR: try in frames; suites of one statement; calls that may raise. -/
namespace G
open PySem PySem.Spec PyProof.Rows L2

/-! ### clauses over frames -/
structure Hd where
  /-- the classes that it takes, of those that may come -/
  cs : List Str
  su : List (Str × PyData) → Fr → SRes
@[simp] def tryH : List Hd → Str → List (Str × PyData) → Fr → SRes
  | [], cl, fs, f => .exc cl fs f
  | h :: r, cl, fs, f => if h.cs.contains cl = true then noX (h.su fs f) else tryH r cl fs f
@[simp] def sTry (names : List Str) (b : Fr → SRes) (hs : List Hd) : Fr → SRes := fun fr => match b fr with
  | .exc cl fs f => if names.contains cl = true then tryH hs cl fs f else .err
  | .nx f => .nx f
  | .ret a f => .ret a f
  | .bk f => .bk f
  | .ct f => .ct f
  | .err => .err
/-- a suite's reading -/
def tSu (X : Cx) (x : XW) (io : Option Nat) (h : Hd) (a : Addr) (cls : Value) (d : Option Addr) : TS := fun D τ H => ∃ (cl : Str) (fs : List (Str × PyData)) (c : Ent) (fr : Fr) (ad : List (Option Addr)) (σ : L2.St) (D0 : Ends),
  h.cs.contains cl = true ∧ CG X.K cl fs H cls d ∧ FR (pX X) c fr ad σ H ∧ τ = sufB io a σ ∧ D = sufE io D0 ∧ SOut (pX X) x c (noX (h.su fs fr)) D0
inductive Hds (X : Cx) (x : XW) (names : List Str) : List ExceptHandler → List Hd → Prop
  | nil : Hds X x names [] []
  | cons {e : Expr} {tn : List Str} {io : Option Nat} {nm : Option Str} {h : Hd} {b : Stmt} {su : List Stmt} {p : Pos} {hs : List ExceptHandler} {l : List Hd} (t : TstG X e (tn.map fun c => Value.ref (He.ga X.K c))) (n : NmOk X io nm)
      (m : ∀ cl ∈ names, PySem.W.exmAny X.K (.ref (He.ga X.K cl)) (tn.map fun c => Value.ref (He.ga X.K c)) = some (h.cs.contains cl))
      (s : ∀ (a : Addr) (oe : Obj) (cls : Value) (d : Option Addr) (pn : List (Addr × Obj)), Zc cls d oe → (∃ vs, oe.data = .fields vs) → PSs (X.suite a ((a, oe) :: pn)) (b :: su) (tSu X x io h a cls d)) (r : Hds X x names hs l) :
      Hds X x names (.ExceptHandler (some e) nm (b :: su) p :: hs) (h :: l)
theorem Hds.clas {X : Cx} {x : XW} {names : List Str} {hs : List ExceptHandler} {l : List Hd} (h : Hds X x names hs l) (hC : x.C = CG X.K) : ∃ cl : List Cla, Clas X hs cl ∧ ∀ (c : Ent) (D : Ends) (cn : Str) (fs : List (Str × PyData)) (fr : Fr), cn ∈ names → SOut (pX X) x c (tryH l cn fs fr) D →
    ∀ ad σ H Cv d, FR (pX X) c fr ad σ H → CG X.K cn fs H Cv d → wCl X.K x.W D cl Cv d σ H := by
  induction h with
  | nil => exact ⟨[], .nil, fun c D cn fs fr _ o ad σ H Cv d F g => o ad σ H Cv d F (by rw [hC]; exact g)⟩
  | @cons e tn io nm h b su p hs l t n m s r ih =>
    obtain ⟨cl, h1, h2⟩ := ih
    refine ⟨(tn.map fun c => Value.ref (He.ga X.K c), io, tSu X x io h) :: cl, .cons t n s h1, fun c D cn fs fr hn o ad σ H Cv d F g => ?_⟩
    have hm := m cn hn
    rw [← g.1] at hm
    refine ⟨_, hm, fun yes a na => ?_, fun no => ?_⟩
    · unfold tryH at o
      rw [if_pos yes] at o
      exact ⟨cn, fs, c, fr, ad, σ, D, yes, g, F, rfl, rfl, o⟩
    · unfold tryH at o
      rw [if_neg (by rw [no]; decide)] at o
      exact h2 c D cn fs fr hn o ad σ H Cv d F g
section
variable {X : Cx} {x : XW} {b : Fr → SRes} {body : List Stmt} {h₀ : ExceptHandler} {hds : List ExceptHandler} {l : List Hd} {pos : Pos} {names : List Str}
theorem as_try (hs : X.stack = X.env :: X.outer) (hf : X.env.frame = some X.env.locals) (hN : X.N.Nodup) (tk : Takes X x.W) (hC : x.C = CG X.K)
    (hb : ∀ (W : WX) (pn : List (Addr × Obj)) (xe : Value → Shared → Prop), Takes (X.tr pn xe) W → PassesOwn (model X.prog X.w) X.A X.env xe → ASs (X.tr pn xe) ⟨W, CG X.K⟩ body b) (hh : Hds X x names (h₀ :: hds) l) :
    AS X x (.Try body (h₀ :: hds) [] [] pos) (sTry names b l) := by
  obtain ⟨cl, C, go⟩ := hh.clas hC
  refine (ps_try_cl (Wo := x.W) (tb := fun W => tS (pX X) ⟨W, CG X.K⟩ b) hs hf hN tk hb C).imp fun D σ H ⟨c, fr, ad, F, o⟩ => ⟨c, fr, ad, F, ?_⟩
  unfold sTry at o
  cases q : b fr with
  | nx f => rw [q] at o; exact o
  | ret a f => rw [q] at o; exact o
  | bk f => rw [q] at o; exact o
  | ct f => rw [q] at o; exact o
  | err => rw [q] at o; exact o.elim
  | exc cn fs f =>
    rw [q] at o
    simp only at o
    split at o
    · rename_i hn
      exact fun ad' σ' H' Cv d F' g => go c D cn fs f (by simpa using hn) o ad' σ' H' Cv d F' g
    · exact o.elim
end
/-! ### suites of one statement -/
inductive El where
  | c (y : PyData)
  | f (n : Str)
@[simp] def El.at (fs : List (Str × PyData)) : El → Option PyData
  | .c y => some y
  | .f n => fs.lookup n
@[simp] def elsAt (fs : List (Str × PyData)) : List El → Option (List PyData)
  | [] => some []
  | e :: r => match e.at fs, elsAt fs r with
    | some y, some ys => some (y :: ys)
    | _, _ => none
inductive Sx where
  | el (e : El)
  | tup (es : List El)
  | lst (es : List El)
@[simp] def Sx.at (fs : List (Str × PyData)) : Sx → Option PyData
  | .el e => e.at fs
  | .tup es => (elsAt fs es).map .tuple
  | .lst es => (elsAt fs es).map .list
@[simp] def killO (io : Option Nat) (fr : Fr) : Fr := match io with
  | none => fr
  | some i => fr.kill [i]
/-- name := .. of the exception's fields -/
@[simp] def hasO (io : Option Nat) (fr : Fr) : Bool := match io with
  | none => true
  | some i => (fr.vars[i]?).isSome
@[simp] def suSet (io : Option Nat) (j : Nat) (sx : Sx) : List (Str × PyData) → Fr → SRes := fun fs fr => match sx.at fs with
  | some y => if hasO io fr = true then .nx (killO io (fr.setv j (some (.dat y)))) else .err
  | none => .err
@[simp] def suCt (io : Option Nat) : List (Str × PyData) → Fr → SRes := fun _ fr => .ct (killO io fr)
theorem FR.killed {p : Par} {c : Ent} {fr : Fr} {ad : List (Option Addr)} {σ : L2.St} {H : Hp} (F : FR p c fr ad σ H) (i : Nat) (z : Option V) : FR p c (fr.kill [i]) ad (σ.set i z) H := by
  have G := F.kill [i]
  refine ⟨by rw [List.length_set]; exact G.len, fun j av e => ?_, G.clen, G.cel, G.nd, G.old, G.sub, G.adw, G.gh, G.pr, G.bs⟩
  obtain ⟨v, h1, h2⟩ := G.var j av e
  have hj : i ≠ j := fun q => (kill_some (is := [i]) e).2 (by simp [q])
  exact ⟨v, by rw [List.getElem?_set_ne hj]; exact h1, h2⟩
theorem FR.killB {p : Par} {c : Ent} {fr : Fr} {ad : List (Option Addr)} {σ : L2.St} {H : Hp} (F : FR p c fr ad σ H) (i : Nat) (z u : Option V) : FR p c (fr.kill [i]) ad ((σ.set i z).set i u) H := by
  rw [List.set_set]
  exact F.killed i u
def RElt (K : PySem.W.Frag) (H : Hp) (v : V) (y : PyData) : Prop := noL y = true ∧ Rep K H (fun _ => True) v y
section
variable {X : Cx}
/-- one item, in a suite of an exception of the class cl, its name in slot i -/
def tEl (X : Cx) (cl : Str) (i : Nat) (el : El) (a : Addr) (cls : Value) (d : Option Addr) : TE := fun τ H Q => ∃ fs y, τ[i]? = some (some (.ref a)) ∧ CG X.K cl fs H cls d ∧ el.at fs = some y ∧ ∀ v, RElt X.K H v y → Q v H
def AEl (X : Cx) (cl : Str) (i : Nat) (e : Expr) (el : El) : Prop := ∀ (a : Addr) (oe : Obj) (cls : Value) (d : Option Addr) (pn : List (Addr × Obj)), Zc cls d oe → (∃ vs, oe.data = .fields vs) → PE (X.suite a ((a, oe) :: pn)) e (tEl X cl i el a cls d)
def tEls (X : Cx) (cl : Str) (i : Nat) (els : List El) (a : Addr) (cls : Value) (d : Option Addr) : TA := fun τ H Q => ∃ fs ys, τ[i]? = some (some (.ref a)) ∧ CG X.K cl fs H cls d ∧ elsAt fs els = some ys ∧ ∀ vs, Paired (RElt X.K H) vs ys → Q vs H
def AEls (X : Cx) (cl : Str) (i : Nat) (e : List Expr) (els : List El) : Prop := ∀ (a : Addr) (oe : Obj) (cls : Value) (d : Option Addr) (pn : List (Addr × Obj)), Zc cls d oe → (∃ vs, oe.data = .fields vs) → PA (X.suite a ((a, oe) :: pn)) e (tEls X cl i els a cls d)
variable {cl : Str} {i : Nat} {p p2 : Pos} {k : Nat} {n : Str}
theorem ael_str {z : Str} (h : PyData.strOk z = true := by decide +kernel) : AEl X cl i (.Constant (.str z) k p) (.c (.str z)) := fun a oe cls d pn hz hf => pe_str.imp fun τ H Q ⟨fs, y, _, _, e, q⟩ => by
  cases e
  exact q _ ⟨rfl, .str z h⟩
theorem ael_int {z : Int} : AEl X cl i (.Constant (.int z) k p) (.c (.int z)) := fun a oe cls d pn hz hf => pe_int.imp fun τ H Q ⟨fs, y, _, _, e, q⟩ => by
  cases e
  exact q _ ⟨rfl, .int z⟩
theorem ael_non : AEl X cl i (.Constant .none k p) (.c .none) := fun a oe cls d pn hz hf => pe_non.imp fun τ H Q ⟨fs, y, _, _, e, q⟩ => by
  cases e
  exact q _ ⟨rfl, .non⟩
theorem ael_fld {fI : Addr} {fields : List Str} {f : Str} (T : ExF X.K cl fI fields) (hm : f ∈ fields) (hN : X.N[i]? = some n) (hv : Vis X.env.scope n) (hd : (n == ("__debug__" : Str)) = false := by decide) (hcd : (n == ("__classdict__" : Str)) = false := by decide)
    (hb : attributeBase (.Name n p) f X.env (eval (.Name n p) X.env) = eval (.Name n p) X.env := by rfl) : AEl X cl i (.Attribute (.Name n p) f p2) (.f f) := fun a oe cls d pn hz hf =>
  (pe_xf T.xf (T.nf f hm) hz hf (pe_var (X := X.suite a ((a, oe) :: pn)) hN hv hd hcd) hb).imp fun τ H Q ⟨fs, y, hi, ⟨g1, dx, vs, g2, g3, g4⟩, e, q⟩ => by
    obtain ⟨z1, v, z2, z3⟩ := g4 f y e
    exact ⟨_, hi, rfl, g1, dx, vs, v, g2, g3, z2, q v ⟨z1, z3⟩⟩
theorem aels_nil : AEls X cl i [] [] := fun a oe cls d pn hz hf => pa_nil.imp fun τ H Q ⟨fs, ys, _, _, e, q⟩ => by
  cases e
  exact q [] .nil
theorem aels_cons {e : Expr} {es : List Expr} {el : El} {els : List El} (h1 : AEl X cl i e el) (h2 : AEls X cl i es els) (hs : ∀ Y : Cx, Y.env = X.env → starEach (e :: es) Y.env = (false, eval e Y.env) :: starEach es Y.env) : AEls X cl i (e :: es) (el :: els) := fun a oe cls d pn hz hf =>
  (pa_cons (h1 a oe cls d pn hz hf) (h2 a oe cls d pn hz hf) (hs _ rfl)).imp fun τ H Q ⟨fs, ys, hi, g, e, q⟩ => by
    unfold elsAt at e
    cases e1 : el.at fs with
    | none => rw [e1] at e; cases e
    | some y =>
      cases e2 : elsAt fs els with
      | none => rw [e1, e2] at e; cases e
      | some ys2 =>
        rw [e1, e2] at e
        cases e
        exact ⟨fs, y, hi, g, e1, fun v r => ⟨fs, ys2, hi, g, e2, fun vs rs => q _ (.cons r rs)⟩⟩
/-- a value of a suite -/
def tSx (X : Cx) (cl : Str) (i : Nat) (sx : Sx) (a : Addr) (cls : Value) (d : Option Addr) : TE := fun τ H Q => ∃ fs y, τ[i]? = some (some (.ref a)) ∧ CG X.K cl fs H cls d ∧ sx.at fs = some y ∧ ∀ v H', Grow H H' → Rep X.K H' (fun b => H b = none) v y → Q v H'
def ASx (X : Cx) (cl : Str) (i : Nat) (e : Expr) (sx : Sx) : Prop := ∀ (a : Addr) (oe : Obj) (cls : Value) (d : Option Addr) (pn : List (Addr × Obj)), Zc cls d oe → (∃ vs, oe.data = .fields vs) → PE (X.suite a ((a, oe) :: pn)) e (tSx X cl i sx a cls d)
theorem rels {K : PySem.W.Frag} {H : Hp} {ok : Addr → Prop} {vs : List V} {ys : List PyData} (r : Paired (RElt K H) vs ys) : RepL K H ok vs ys := by
  induction r with
  | nil => exact .nil
  | cons h _ ih => exact .cons (Rep.free h.1 h.2) ih
theorem asx_el {e : Expr} {el : El} (h : AEl X cl i e el) : ASx X cl i e (.el el) := fun a oe cls d pn hz hf => (h a oe cls d pn hz hf).imp fun τ H Q ⟨fs, y, hi, g, e, q⟩ => ⟨fs, y, hi, g, e, fun v r => q v H Grow.refl (Rep.free r.1 r.2)⟩
theorem elsAt_len {fs : List (Str × PyData)} : ∀ {els : List El} {ys : List PyData}, elsAt fs els = some ys → ys.length = els.length := by
  intro els
  induction els with
  | nil => intro ys e; cases e; rfl
  | cons z zs ih =>
    intro ys e
    unfold elsAt at e
    cases q1 : z.at fs with
    | none => rw [q1] at e; cases e
    | some u =>
      cases q2 : elsAt fs zs with
      | none => rw [q1, q2] at e; cases e
      | some us => rw [q1, q2] at e; cases e; simp [ih q2]
theorem asx_tup {es : List Expr} {els : List El} {kk : Nat} (h : AEls X cl i es els) (hl : els.length ≤ 100 := by decide) : ASx X cl i (.Tuple es kk p) (.tup els) := fun a oe cls d pn hz hf => (pe_tup (h a oe cls d pn hz hf)).imp fun τ H Q ⟨fs, y, hi, g, e, q⟩ => by
  have e : (elsAt fs els).map PyData.tuple = some y := e
  cases e1 : elsAt fs els with
  | none => rw [e1] at e; cases e
  | some ys =>
    rw [e1] at e
    cases e
    refine ⟨fs, ys, hi, g, e1, fun vs rs => ?_⟩
    have yl : ys.length ≤ 100 := by rw [elsAt_len e1]; exact hl
    have rl := rels (ok := fun b => H b = none) rs
    have e2 := rl.length
    refine ⟨by rw [e2, sizeLine_eq]; omega, fun b nb => q _ _ (Grow.new nb) (.tup (SqT.of upd_same) (by rw [sizeLine_eq]; omega) (RepL.keep (Grow.new nb).keep rl))⟩
theorem asx_lst {es : List Expr} {els : List El} (h : AEls X cl i es els) (hl : els.length ≤ 100 := by decide) : ASx X cl i (.List es p) (.lst els) := fun a oe cls d pn hz hf => (pe_lst (h a oe cls d pn hz hf)).imp fun τ H Q ⟨fs, y, hi, g, e, q⟩ => by
  have e : (elsAt fs els).map PyData.list = some y := e
  cases e1 : elsAt fs els with
  | none => rw [e1] at e; cases e
  | some ys =>
    rw [e1] at e
    cases e
    refine ⟨fs, ys, hi, g, e1, fun vs rs => ?_⟩
    have yl : ys.length ≤ 100 := by rw [elsAt_len e1]; exact hl
    have rl := rels (ok := fun b => H b = none) rs
    have e2 := rl.length
    refine ⟨by rw [e2, sizeLine_eq]; omega, fun b nb => q _ _ (Grow.new nb) (.lst nb upd_same (by rw [sizeLine_eq]; omega) (RepL.keep (Grow.new nb).keep rl))⟩
/-- `as e`: name = .. of its fields -/
theorem su_set {x : XW} {e : Expr} {sx : Sx} {j : Nat} {m : Str} {p1 pos : Pos} (hij : i ≠ j) (h : ASx X cl i e sx) (hN : X.N.Nodup) (hi : X.N[j]? = some m) (hx : Loc X.env.scope m) (hs : swapsWith e (some (.Name m p1)) pos.line X.env = pure false := by rfl)
    (hf : X.fn m = true ∨ X.env.scope.names.lookup m = some .local := by first | exact .inl rfl | exact .inr rfl | assumption) (a : Addr) (oe : Obj) (cls : Value) (d : Option Addr) (pn : List (Addr × Obj)) (hz : Zc cls d oe) (hfl : ∃ vs, oe.data = .fields vs) :
    PSs (X.suite a ((a, oe) :: pn)) [.Assign [.Name m p1] e pos] (tSu X x (some i) ⟨[cl], suSet (some i) j sx⟩ a cls d) :=
  pss_one ((ps_set (X := X.suite a ((a, oe) :: pn)) hN hi hx (h a oe cls d pn hz hfl) hs hf).imp fun D τ H ⟨cl', fs, c, fr, ad, σ, D0, hc, g, F, et, eD, o⟩ => by
    have hcl : cl' = cl := by simpa using hc
    subst hcl et eD
    have o : SOut (pX X) x c (noX (suSet (some i) j sx fs fr)) D0 := o
    unfold suSet at o
    cases q : sx.at fs with
    | none => rw [q] at o; exact o.elim
    | some y =>
      rw [q] at o
      have o : SOut (pX X) x c (noX (if hasO (some i) fr = true then .nx (killO (some i) (fr.setv j (some (.dat y)))) else .err)) D0 := o
      by_cases hh : hasO (some i) fr = true
      rotate_left
      · rw [if_neg hh] at o; exact o.elim
      rw [if_pos hh] at o
      have il : i < σ.length := by
        have : (fr.vars[i]?).isSome = true := hh
        rw [← F.len]
        simpa using this
      refine ⟨fs, y, by simp [sufB, il], g, q, fun v H' gr r => ?_⟩
      have F2 : FR (pX X) c (fr.setv j (some (.dat y))) ad (σ.set j (some v)) H' := (F.grow gr).setv (a := .dat y) (r.keep ⟨fun b u h1 h2 => ⟨okP_new F h1, h2⟩, fun _ _ z => z⟩)
      show D0.nx (((σ.set i (some (.ref a))).set j (some v)).set i none) H'
      rw [List.set_comm _ _ hij]
      exact o _ _ _ (F2.killB i _ _))
/-- no name: name = a constant -/
theorem su_setC {x : XW} {e : Expr} {y : PyData} {j : Nat} {m : Str} {p1 pos : Pos} {cs : List Str} (h : ∀ (a : Addr) (oe : Obj) (pn : List (Addr × Obj)), PE (X.suite a ((a, oe) :: pn)) e fun τ H Q => ∀ v, (∀ (H : Hp) (ok : Addr → Prop), Rep X.K H ok v y) → Q v H) (hN : X.N.Nodup) (hi : X.N[j]? = some m) (hx : Loc X.env.scope m) (hs : swapsWith e (some (.Name m p1)) pos.line X.env = pure false := by rfl)
    (hf : X.fn m = true ∨ X.env.scope.names.lookup m = some .local := by first | exact .inl rfl | exact .inr rfl | assumption) (a : Addr) (oe : Obj) (cls : Value) (d : Option Addr) (pn : List (Addr × Obj)) (hz : Zc cls d oe) (hfl : ∃ vs, oe.data = .fields vs) :
    PSs (X.suite a ((a, oe) :: pn)) [.Assign [.Name m p1] e pos] (tSu X x none ⟨cs, suSet none j (.el (.c y))⟩ a cls d) :=
  pss_one ((ps_set (X := X.suite a ((a, oe) :: pn)) hN hi hx (h a oe pn) hs hf).imp fun D τ H ⟨cl', fs, c, fr, ad, σ, D0, hc, g, F, et, eD, o⟩ => by
    subst et eD
    intro v r
    exact o _ _ _ (F.setv (a := .dat y) (r _ _)))
theorem pc_str {z : Str} (h : PyData.strOk z = true := by decide +kernel) (a : Addr) (oe : Obj) (pn : List (Addr × Obj)) : PE (X.suite a ((a, oe) :: pn)) (.Constant (.str z) k p) fun τ H Q => ∀ v, (∀ (H : Hp) (ok : Addr → Prop), Rep X.K H ok v (.str z)) → Q v H := pe_str.imp fun τ H Q q => q _ fun _ _ => .str z h
theorem pc_non (a : Addr) (oe : Obj) (pn : List (Addr × Obj)) : PE (X.suite a ((a, oe) :: pn)) (.Constant .none k p) fun τ H Q => ∀ v, (∀ (H : Hp) (ok : Addr → Prop), Rep X.K H ok v .none) → Q v H := pe_non.imp fun τ H Q q => q _ fun _ _ => .non
/-- continue -/
theorem su_ct {x : XW} {pos : Pos} {cs : List Str} (a : Addr) (oe : Obj) (cls : Value) (d : Option Addr) (pn : List (Addr × Obj)) : PSs (X.suite a ((a, oe) :: pn)) [.Continue pos] (tSu X x none ⟨cs, suCt none⟩ a cls d) :=
  pss_one (ps_continue.imp fun D τ H ⟨cl', fs, c, fr, ad, σ, D0, hc, g, F, et, eD, o⟩ => by
    subst et eD
    exact o _ _ _ F)
/-- return of a constant -/
@[simp] def suRet (y : PyData) : List (Str × PyData) → Fr → SRes := fun _ fr => .ret (.dat y) fr
theorem su_ret {x : XW} {e : Expr} {y : PyData} {pos : Pos} {cs : List Str} (h : ∀ (a : Addr) (oe : Obj) (pn : List (Addr × Obj)), PE (X.suite a ((a, oe) :: pn)) e fun τ H Q => ∀ v, (∀ (H : Hp) (ok : Addr → Prop), Rep X.K H ok v y) → Q v H) (a : Addr) (oe : Obj) (cls : Value) (d : Option Addr) (pn : List (Addr × Obj)) : PSs (X.suite a ((a, oe) :: pn)) [.Return (some e) pos] (tSu X x none ⟨cs, suRet y⟩ a cls d) :=
  pss_one ((ps_ret (h a oe pn)).imp fun D τ H ⟨cl', fs, c, fr, ad, σ, D0, hc, g, F, et, eD, o⟩ => by
    subst et eD
    exact fun v r => o _ _ _ _ F (r _ _))
end
end G
/-! HS: defs that raise among defs that do not. -/
namespace G
open PySem PySem.Spec PyProof.Rows L2

section
variable {P : Program} {w : World} {K : PySem.W.Frag} {mg : Str → Option Value} {base : Heap}
theorem spF_up {p : Par} {C : CExc} {m : AFun} {n : Nat} {vs : List V} {H : Hp} {Q : VK} {E : XK} (h : spF p C m n vs H Q E) : spF p C0 m n vs H Q E := by
  obtain ⟨h1, S, W0, as, cells, h2, h3, h4, h5, h6⟩ := h
  refine ⟨h1, S, W0, as, cells, h2, h3, h4, h5, ?_⟩
  cases q : m as cells with
  | ok r cs => rw [q] at h6; exact h6
  | exc cl fs cs => exact fun _ _ _ _ z => z.elim
  | err => rw [q] at h6; exact h6
theorem DefF.up {C : CExc} {k : Nat} {n : Str} {np : Nat} {m : AFun} (D : DefF P w K mg base CX0 C0 k n np m) : DefF P w K mg base CX0 C k n np m := by
  obtain ⟨f, fd, ps, F, hm, kp, b⟩ := D.ex
  exact ⟨⟨f, fd, ps, F.imp fun vs H Q E h => spF_up h, hm, kp, b⟩⟩
/-- no exception comes out -/
@[simp] def noE (m : AFun) : AFun := fun as cs => match m as cs with
  | .ok r c => .ok r c
  | _ => .err
theorem FnOk.down {C : CExc} {k : Nat} {np : Nat} {m : AFun} {f : Addr} {fd : FuncData} {ps : List Str} (F : FnOk P w K mg base (L2.CX P w) k f fd ps (spF ⟨P, w, K⟩ C m np)) : FnOk P w K mg base CX0 k f fd ps (spF ⟨P, w, K⟩ C0 (noE m) np) := by
  have key : ∀ {vs : List V} {H : Hp} {Q : VK} {E : XK}, spF ⟨P, w, K⟩ C0 (noE m) np vs H Q E → spF ⟨P, w, K⟩ C m np vs H Q fun _ _ _ => False := by
    intro vs H Q E h
    obtain ⟨h1, S, W0, as, cells, h2, h3, h4, h5, h6⟩ := h
    refine ⟨h1, S, W0, as, cells, h2, h3, h4, h5, ?_⟩
    unfold noE at h6
    cases q : m as cells with
    | ok r cs => rw [q] at h6; exact h6
    | exc cl fs cs => rw [q] at h6; exact h6.elim
    | err => rw [q] at h6; exact h6
  refine ⟨fun vs H Q E h => F.len vs H Q _ (key h), fun A outer s H args us vs Q E hr he hb hv hs => codeAny_mono (F.run A outer s H args us vs Q _ hr he hb hv (key hs)) fun r s' hq => ?_⟩
  cases r with
  | error e =>
    obtain ⟨_, _, _, _, _, _, _, _, _, _, _, _, z⟩ := hq
    exact z.elim
  | ok fl => cases fl <;> exact hq
theorem DefF.down {C : CExc} {k : Nat} {n : Str} {np : Nat} {m : AFun} (D : DefF P w K mg base (L2.CX P w) C k n np m) : DefF P w K mg base CX0 C0 k n np (noE m) := by
  obtain ⟨f, fd, ps, F, hm, kp, b⟩ := D.ex
  exact ⟨⟨f, fd, ps, FnOk.down F, hm, kp, b⟩⟩
/-- a class of exceptions that may be made and raised -/
structure RaC (P : Program) (w : World) (K : PySem.W.Frag) (mg : Str → Option Value) (base : Heap) (cl : Str) (fields : List Str) : Prop where
  ex : ∃ (fI : Addr) (fd : FuncData) (ps : List Str), ExF K cl fI fields ∧ FnOk P w K mg base CX0 1 fI fd ps (spInit (He.ga K cl) fields) ∧ Binds K fd ps []
  gm : mg cl = some (.ref (He.ga K cl))
end
section
variable {X : Cx} {x : XW} {a : Expr} {es : List Expr} {gs : Fr → Res (List AV)}
theorem as_raiseC {cl : Str} {fields : List Str} {p1 p2 p3 : Pos} {j : Nat} (R : RaC X.prog X.w X.K X.mg X.base cl fields) (nd : fields.Nodup) (hl : fields.length ≤ 100)
    (hc : X.calm = true) (hr : Room j X.A) (hj : 2 ≤ j) (tk : Takes X x.W) (hC : x.C = CG X.K) (hg : Gl X cl) (ha : AA X x (a :: es) gs) (hdb : (cl == ("__debug__" : Str)) = false := by decide) (he : starEach (a :: es) X.env = (false, eval a X.env) :: starEach es X.env := by rfl) (hpl : (backTo p2 (starEach es X.env)).any (·.1) = false := by rfl) :
    AS X x (.Raise (some (.Call (.Name cl p1) (a :: es) [] p2)) none p3) (sRaise cl fields gs) := by
  obtain ⟨fI, fd, ps, T, F, b⟩ := R.ex
  exact as_raise T F b nd hl hc (hr.mono hj) tk hC hg R.gm ha hdb he hpl
end
/-- a clause's classes are told of -/
def exmK (K : PySem.W.Frag) (names tn : List Str) (cs : List Str) : Bool := names.all fun cl => decide (PySem.W.exmAny K (.ref (He.ga K cl)) (tn.map fun c => Value.ref (He.ga K c)) = some (cs.contains cl))
theorem exmK_ok {K : PySem.W.Frag} {names tn cs : List Str} (h : exmK K names tn cs = true) : ∀ cl ∈ names, PySem.W.exmAny K (.ref (He.ga K cl)) (tn.map fun c => Value.ref (He.ga K c)) = some (cs.contains cl) := fun cl hm => of_decide_eq_true (List.all_eq_true.mp h cl hm)
end G
/-! HT: list.index; slices of own lists written. -/
namespace G
open PySem PySem.Spec PyProof.Rows L2

/-! ### name.index(value) -/
def dIdx (ds : List PyData) (d : PyData) : Option Nat := if inOk d ds = true then ds.findIdx? (fun z => PyData.eqv z d) else none
@[simp] def xIdx (i : Nat) (f : Fr → Res AV) : Fr → Res AV := fun fr => match fr.vars[i]? with
  | some (some (.cel k)) => (match fr.cells[k]? with
    | some (.lst _) => (f fr).bind fun a fr1 => (match fr1.cells[k]?, fr1.view a with
      | some (.lst ds), some d => (match dIdx ds d with
        | some j => .ok (.dat (.int (j : Nat))) fr1
        | none => .err)
      | _, _ => .err)
    | _ => .err)
  | _ => .err
def rIndexG (K : PySem.W.Frag) : V → List V → Hp → VK → Prop := fun x xs H Q => ∃ (ok : Addr → Prop) (a : Addr) (its0 : List V) (y : V) (d : PyData) (ds : List PyData) (j : Nat), x = V.ref a ∧ xs = [y] ∧ H a = some (.lst its0) ∧ RepB K H ok (.ref a) (.list ds) ∧ RepB K H ok y d ∧
  dIdx ds d = some j ∧ Q (.int (j : Nat)) H
section
variable {X : Cx}
theorem mt_indexG (hu : X.A.units + 65 < cLine) : MtR X "list.index" (rIndexG X.K) := by
  intro pins s σ H x xs v us Q I rx rxs h
  obtain ⟨ok, a, its0, y, d, ds, j, rfl, rfl, hH, hl, hy, hj0, q⟩ := h
  cases rx
  unfold dIdx at hj0
  split at hj0
  rotate_left
  · cases hj0
  rename_i hin
  obtain ⟨hjl0, hjt, hjn⟩ := List.findIdx?_eq_some_iff_getElem.mp hj0
  cases rxs with
  | cons ry rt =>
    rename_i uy ut
    cases rt
    obtain ⟨bs, r1⟩ := Dp.reads I d y uy hy.dp ry
    have hxs : PyData.canLayAll0 ds = true := hl.lay
    have hroom : X.A.units + 1 + min (PyData.depthAll ds) d.depth < cLine := in_room hin hu
    cases hl.dp with
    | lst hs ha =>
      obtain ⟨its, rv, ⟨⟨cls, dd, data, sls⟩, n, ho, hc, hdn, hdt⟩, hlen⟩ := I.list hs
      simp only at hc hdt
      subst hc hdt
      obtain ⟨as, h4⟩ := Dp.readsAll I ds _ its ha rv
      have hn : its.length = ds.length := SeqAt.ReadsAll.length ds its as h4
      have hmap : its.map (SeqAt.readOf s.heap) = ds := SeqAt.readsAll_map ds its as hxs h4
      have hvl := rv.length
      have hsl := sizeLine_eq
      have hjl : j < its.length := by omega
      have hj : j < its.toArray.size := by simpa using hjl
      have at_ : ∀ (m : Nat) (hm : m < its.toArray.size) (z' : PyData), ds[m]? = some z' → SeqAt.readOf s.heap its.toArray[m] = z' := by
        intro m hm z' hz'
        have hml : m < its.length := by simpa using hm
        rw [← hmap, List.getElem?_map, List.getElem?_eq_getElem hml] at hz'
        have e1 : SeqAt.readOf s.heap its[m] = z' := Option.some.inj (show some (SeqAt.readOf s.heap its[m]) = some z' from hz')
        simpa using e1
      refine call_meets PySem.F.slot_list_index ⟨_, ho, rfl⟩ PySem.F.entry_list_index (PySem.F.args_list_index_2 _ _)
        (SeqAt.list_indexAt a its.toArray n dd sls uy (fun u => PyData.eqv (SeqAt.readOf s.heap u) d) j hj (by omega) ?_ ?_) ⟨ho, SeqAt.items_eqAt (vs := its.toArray) (show ReadsAll s.heap its.toArray.toList ds as from h4) r1 hxs hy.lay hroom, ?_⟩
      · show PyData.eqv (SeqAt.readOf s.heap its.toArray[j]) d = true
        rw [at_ j hj _ (List.getElem?_eq_getElem hjl0)]
        exact hjt
      · intro m hm hmj
        have hmd : m < ds.length := by omega
        show PyData.eqv (SeqAt.readOf s.heap its.toArray[m]) d = false
        rw [at_ m hm _ (List.getElem?_eq_getElem hmd)]
        simpa using hjn m hmj
      · exact ⟨.int (j : Nat), H, I.tok _, ⟨_, rfl⟩, q⟩
variable {x : XW} {a b d : Expr} {f g h : Fr → Res AV} {pos : Pos}
theorem ae_index {i : Nat} {n : Str} {p1 p2 p3 : Pos} (hu : X.A.units + 65 < cLine) (hN : X.N[i]? = some n) (hv : Vis X.env.scope n) (ha : AE X x a f) (hd : (n == ("__debug__" : Str)) = false := by decide) (hcd : (n == ("__classdict__" : Str)) = false := by decide)
    (hst : starEach [a] X.env = (false, eval a X.env) :: starEach [] X.env := by rfl)
    (hfew : ((backTo p3 (starEach [a] X.env)).all (fun z => !z.1) && (backToKw p3 (keywordEach [] X.env)).all (fun z => z.1.isSome) && decide ([a].length + ([] : List Keyword).length + (if ([] : List Keyword).isEmpty then 0 else 1) < 30)) = true := by rfl)
    (hline : (p2.endLine == p3.line) = true := by rfl) : AE X x (.Call (.Attribute (.Name n p1) "index" p2) [a] [] p3) (xIdx i f) := by
  refine (pe_bm PySem.F.plainAttrs_list PySem.F.slot_list_index PySem.F.type_list_index (mt_indexG hu) (pe_var hN hv hd hcd) (pa_cons ha pa_nil hst) rfl hfew hline hst).imp fun σ H Q ⟨c, fr, ad, F, o⟩ => ?_
  unfold xIdx at o
  cases q : fr.vars[i]? with
  | none => rw [q] at o; exact o.elim
  | some w =>
    rw [q] at o
    cases w with
    | none => exact o.elim
    | some av =>
      obtain ⟨v, h1, h2⟩ := F.var i av q
      cases av with
      | cel k =>
        obtain ⟨l, rfl, hl⟩ := h2
        obtain ⟨cl, hc, hcl⟩ := F.cel k l hl
        simp only [hc] at o
        cases cl with
        | dct tp kvs => exact o.elim
        | gone => exact o.elim
        | lst ds0 =>
          simp only at o
          obtain ⟨vs0, e0, z0, r0⟩ := hcl
          refine ⟨_, h1, .inl ⟨rfl, vs0, .inl (.inl e0)⟩, c, fr, ad, F, (Out.bind F o).mono fun av fr1 ad1 H1 F1 m1 o1 v rv => ?_⟩
          cases q2 : fr1.cells[k]? with
          | none => simp only [q2] at o1; exact o1.elim
          | some cl =>
            cases cl with
            | lst ds =>
              cases q3 : fr1.view av with
              | none => simp only [q2, q3] at o1; exact o1.elim
              | some dx =>
                simp only [q2, q3] at o1
                cases q4 : dIdx ds dx with
                | none => simp only [q4] at o1; exact o1.elim
                | some j =>
                  simp only [q4] at o1
                  have e3 := m1.pre k _ hl
                  obtain ⟨vs, h3, hz, h4⟩ := cell_lst F1 e3 q2
                  have rl : RepB X.K H1 (okP c ad1) (.ref l) (.list ds) := view_rep F1 (v := .ref l) (a := .cel k) ⟨l, rfl, e3⟩ (by simp [Fr.view, q2])
                  exact ⟨okP c ad1, l, vs, v, dx, ds, j, rfl, rfl, h3, rl, view_rep F1 rv q3, q4, o1 ad1 H1 F1 Mv.refl _ (.int _)⟩
            | _ => simp only [q2] at o1; exact o1.elim
      | _ => exact o.elim

/-! ### name[a:b] = value -/
@[simp] def sSlSet (i : Nat) (fa fc fv : Fr → Res AV) : Fr → SRes := fun fr => (fv fr).toS fun v fr1 => match fr1.vars[i]? with
  | some (some (.cel k)) => (fa fr1).toS fun a fr2 => (match a with
    | .dat (.int a) => (fc fr2).toS fun c fr3 => (match v, c, fr3.cells[k]? with
      | .dat (.list ys), .dat (.int c), some (.lst xs) => if 0 ≤ a ∧ a ≤ c ∧ c ≤ (xs.length : Int) ∧ xs.length + ys.length ≤ 1000000 then .nx (fr3.putc k (.lst (xs.take a.toNat ++ ys ++ xs.drop c.toNat))) else .err
      | _, _, _ => .err)
    | _ => .err)
  | _ => .err
def gSlS (to : TE) (tl th : TO) : TG := fun v σ H Q => to σ H fun o H1 => tl σ H1 fun l H2 => th σ H2 fun u H3 => ∃ (la b : Addr) (xs ys : List V) (a c : Int), o = .ref la ∧ v = .ref b ∧ H3 la = some (.lst xs) ∧ H3 b = some (.lst ys) ∧ la ≠ b ∧ l = some a ∧ u = some c ∧ 0 ≤ a ∧ a ≤ c ∧ c ≤ (xs.length : Int) ∧
  xs.length + ys.length ≤ sizeLine ∧ Q σ (upd H3 la (.lst (xs.take a.toNat ++ ys ++ xs.drop c.toNat)))
theorem pg_slS {o : Expr} {lo hi : Option Expr} {to : TE} {tl th : TO} {p2 : Pos} (ho : PE X o to) (hl : PO X lo tl) (hh : PO X hi th)
    (ha : ∀ v, assign (.Subscript o (.Slice lo hi none p2) pos) X.env v = (do
      let ov ← holding [v] (eval o X.env)
      let iv ← holding [v, ov] (eval (.Slice lo hi none p2) X.env)
      standAt pos
      holding [v, ov, iv] (setItem ov iv v)
      release [iv, v, ov] [])) : PG X (.Subscript o (.Slice lo hi none p2) pos) (gSlS to tl th) := by
  refine ⟨fun pins s σ H v u Q I r h => ?_⟩
  rw [ha]
  refine wpAny_bind (wpAny_holding (thn (ho.run pins s σ H _ I h) fun ov s1 ⟨x, H1, I1, r1, q1⟩ => ?_))
  refine wpAny_bind (wpAny_holding (wpAny_Slice (thn (hl.run pins s1 σ H1 _ I1 q1) fun vl s2 ⟨l, H2, I2, pl, q2⟩ => thn (hh.run pins s2 σ H2 _ I2 q2) fun vu s3 ⟨w, H3, I3, pu, q3⟩ => ?_)))
  rw [evalPart_none]
  refine wpAny_pure ?_
  have I4 : Inv X pins σ H3 { s3 with heap := s3.heap.push { cls := .type "slice", data := .fields #[vl, vu, .none] } } := I3.kept (t' := s3.toks) fun b ob q => Heap.get?_push_of_some _ q
  obtain ⟨la, b, xs, ys, a, c, rfl, rfl, hA, hB, ne, rfl, rfl, z1, z2, z3, z4, q⟩ := q3
  cases (show ov = Value.ref la from r1)
  cases (show u = Value.ref b from r)
  cases pl with
  | int _ ta =>
    cases pu with
    | int _ tc =>
      refine wpAny_bind (wpAny_standAt (wpAny_bind (wpAny_holding (set_slice I4 hA hB ne (Heap.IsSliceOf.new ..) ⟨ta, rfl⟩ ⟨tc, rfl⟩ z1 z2 z3 z4 fun s' I5 => ?_))))
      exact wpAny_release ⟨σ, _, I5, q⟩
theorem as_slSet {i : Nat} {n : Str} {p1 p2 p3 : Pos} (hN : X.N[i]? = some n) (hv : Vis X.env.scope n) (hb : AE X x b g) (hc : AE X x d h) (ha : AE X x a f) (hd : (n == ("__debug__" : Str)) = false := by decide) (hcd : (n == ("__classdict__" : Str)) = false := by decide)
    (hsub : ∀ v, assign (.Subscript (.Name n p1) (.Slice (some b) (some d) none p3) p2) X.env v = (do
      let ov ← holding [v] (eval (.Name n p1) X.env)
      let iv ← holding [v, ov] (eval (.Slice (some b) (some d) none p3) X.env)
      standAt p2
      holding [v, ov, iv] (setItem ov iv v)
      release [iv, v, ov] []) := by intro _; rfl)
    (hs : swapsWithSole [.Subscript (.Name n p1) (.Slice (some b) (some d) none p3) p2] a pos.line X.env = pure false := by rfl) (hw : swappedStores [.Subscript (.Name n p1) (.Slice (some b) (some d) none p3) p2] a X.env = pure none := by rfl)
    (h1 : (assignEach [.Subscript (.Name n p1) (.Slice (some b) (some d) none p3) p2] X.env).map (·.2) = [assign (.Subscript (.Name n p1) (.Slice (some b) (some d) none p3) p2) X.env] := by rfl) :
    AS X x (.Assign [.Subscript (.Name n p1) (.Slice (some b) (some d) none p3) p2] a pos) (sSlSet i g h f) := by
  refine (ps_asg ha (pg_slS (pe_var hN hv hd hcd) (po_some hb) (po_some hc) hsub) hs hw h1).imp fun D σ H ⟨c, fr, ad, F, o⟩ => ⟨c, fr, ad, F, (SOut.of F o).mono fun av fr1 ad1 H1 F1 m1 o1 v rv => ?_⟩
  cases q : fr1.vars[i]? with
  | none => rw [q] at o1; exact o1.elim
  | some w =>
    rw [q] at o1
    cases w with
    | none => exact o1.elim
    | some aw =>
      obtain ⟨vw, e1, e2⟩ := F1.var i aw q
      cases aw with
      | cel k =>
        obtain ⟨l, rfl, hl⟩ := e2
        refine ⟨_, e1, c, fr1, ad1, F1, (SOut.of F1 o1).mono fun bv fr2 ad2 H2 F2 m2 o2 w rw_ => ?_⟩
        cases bv with
        | dat yb =>
          cases yb with
          | int na =>
            cases RepB.int (.inl rw_)
            refine ⟨na, rfl, c, fr2, ad2, F2, (SOut.of F2 o2).mono fun cv fr3 ad3 H3 F3 m3 o3 w3 rw3 => ?_⟩
            have rv3 := RepA.mv F2 m3 (RepA.mv F1 m2 rv)
            cases av with
            | dat y =>
              cases y with
              | list ys =>
                cases cv with
                | dat yc =>
                  cases yc with
                  | int nc =>
                    cases RepB.int (.inl rw3)
                    cases q2 : fr3.cells[k]? with
                    | none => simp only [q2] at o3; exact o3.elim
                    | some cl =>
                      cases cl with
                      | lst xs =>
                        simp only [q2] at o3
                        split at o3
                        rotate_left
                        · exact o3.elim
                        rename_i hz0
                        obtain ⟨z1, z2, z3, z4⟩ := hz0
                        have e3 := m3.pre k _ (m2.pre k _ hl)
                        obtain ⟨vs, h3, hz, h4⟩ := cell_lst F3 e3 q2
                        have m := List.mem_of_getElem? e3
                        have rv4 : Rep X.K H3 (okP c ad3) v (.list ys) := rv3
                        cases rv4 with
                        | lst okb hb5 hz5 r5 =>
                          rename_i b5 vs5
                          have ne : l ≠ b5 := fun e => okb.2 (e ▸ m)
                          have e4 := h4.length
                          have e5 := r5.length
                          have hsl := sizeLine_eq
                          refine ⟨nc, rfl, l, b5, vs, vs5, na, nc, rfl, rfl, h3, hb5, ne, rfl, rfl, z1, z2, by omega, by omega, ?_⟩
                          refine o3 _ _ _ (F3.putc e3 (wr_t h3) ⟨_, upd_same, ?_, RepL.append (RepL.append (RepL.take _ (h4.keep (wr_k m h3))) (r5.keep (wr_k m h3))) (RepL.drop _ (h4.keep (wr_k m h3)))⟩)
                          simp only [List.length_append, List.length_take, List.length_drop]
                          omega
                      | _ => simp only [q2] at o3; exact o3.elim
                  | _ => exact o3.elim
                | _ => exact o3.elim
              | _ => exact o3.elim
            | _ => exact o3.elim
          | _ => exact o2.elim
        | _ => exact o2.elim
      | _ => exact o1.elim
end
end G
/-! MA: reading mirrors. -/
namespace G
open PySem PySem.Spec PyProof.Rows L2

theorem forA_inv {g : Tg} {b : Fr → SRes} (P : List PyData → Fr → Prop) : ∀ (ys done : List PyData) (fr : Fr), P done fr →
    (∀ done y fr, y ∈ ys → P done fr → ∃ fr1 fr2, g y fr = some fr1 ∧ (b fr1 = .nx fr2 ∨ b fr1 = .ct fr2) ∧ P (done ++ [y]) fr2) → ∃ fr', forA g b ys fr = .nx fr' ∧ P (done ++ ys) fr'
  | [], done, fr, h, _ => ⟨fr, rfl, by rw [List.append_nil]; exact h⟩
  | y :: ys, done, fr, h, st => by
    obtain ⟨fr1, fr2, h1, h2, h3⟩ := st done y fr (List.mem_cons_self ..) h
    obtain ⟨fr', h4, h5⟩ := forA_inv P ys (done ++ [y]) fr2 h3 fun d z f hz => st d z f (List.mem_cons_of_mem _ hz)
    refine ⟨fr', ?_, by rw [List.append_assoc] at h5; exact h5⟩
    unfold forA
    rw [h1]
    rcases h2 with h2 | h2 <;> simp only [h2] <;> exact h4
theorem compA_pure {own : List Nat} {g : Tg} {t : Fr → Res Bool} {f : Fr → Res AV} {vars : List (Option AV)} {bs : Nat} {cs : List Cell} (p : PyData → Bool) (h : PyData → PyData) : ∀ (ys acc : List PyData),
    (∀ y ∈ ys, ∃ fr1 fr2, g y ⟨kill own vars, cs, bs⟩ = some fr1 ∧ t fr1 = .ok (p y) fr2 ∧ fr2.cells = cs ∧ (p y = true → ∃ fr3, f fr2 = .ok (.dat (h y)) fr3 ∧ fr3.cells = cs)) → compA own g t f vars bs ys acc cs = some (acc ++ (ys.filter p).map h, cs)
  | [], acc, _ => by simp [compA]
  | y :: ys, acc, st => by
    obtain ⟨fr1, fr2, h1, h2, h3, h4⟩ := st y (List.mem_cons_self ..)
    have ih := fun acc => compA_pure p h ys acc fun z hz => st z (List.mem_cons_of_mem _ hz)
    unfold compA
    rw [h1]
    simp only [h2]
    cases q : p y with
    | false =>
      simp only [Bool.false_eq_true, if_false]
      rw [h3, ih, List.filter_cons_of_neg (by rw [q]; decide)]
    | true =>
      obtain ⟨fr3, h5, h6⟩ := h4 q
      simp only [if_true, h5]
      rw [h6, ih, List.filter_cons_of_pos q, List.map_cons, List.append_assoc]
      rfl
theorem compA_inv {own : List Nat} {g : Tg} {t : Fr → Res Bool} {f : Fr → Res AV} {vars : List (Option AV)} {bs : Nat} (J : List PyData → List PyData → List Cell → Prop) : ∀ (ys done acc : List PyData) (cs : List Cell), J done acc cs →
    (∀ done y acc cs, y ∈ ys → J done acc cs → ∃ fr1 b fr2, g y ⟨kill own vars, cs, bs⟩ = some fr1 ∧ t fr1 = .ok b fr2 ∧ (b = false → J (done ++ [y]) acc fr2.cells) ∧ (b = true → ∃ z fr3, f fr2 = .ok (.dat z) fr3 ∧ J (done ++ [y]) (acc ++ [z]) fr3.cells)) →
    ∃ acc' cs', compA own g t f vars bs ys acc cs = some (acc', cs') ∧ J (done ++ ys) acc' cs'
  | [], done, acc, cs, h, _ => ⟨acc, cs, rfl, by rw [List.append_nil]; exact h⟩
  | y :: ys, done, acc, cs, h, st => by
    obtain ⟨fr1, b, fr2, h1, h2, h3, h4⟩ := st done y acc cs (List.mem_cons_self ..) h
    unfold compA
    rw [h1]
    simp only [h2]
    cases b with
    | false =>
      simp only [Bool.false_eq_true, if_false]
      obtain ⟨a', c', z1, z2⟩ := compA_inv J ys (done ++ [y]) acc fr2.cells (h3 rfl) fun d z a c hz => st d z a c (List.mem_cons_of_mem _ hz)
      exact ⟨a', c', z1, by rw [List.append_assoc] at z2; exact z2⟩
    | true =>
      obtain ⟨z, fr3, h5, h6⟩ := h4 rfl
      simp only [if_true, h5]
      obtain ⟨a', c', z1, z2⟩ := compA_inv J ys (done ++ [y]) (acc ++ [z]) fr3.cells h6 fun d z a c hz => st d z a c (List.mem_cons_of_mem _ hz)
      exact ⟨a', c', z1, by rw [List.append_assoc] at z2; exact z2⟩

theorem forA_all {g : Tg} {b : Fr → SRes} (P : List PyData → Fr → Prop) (ys : List PyData) (fr : Fr) (h0 : P [] fr)
    (st : ∀ done y rest fr, ys = done ++ y :: rest → P done fr → ∃ fr1 fr2, g y fr = some fr1 ∧ (b fr1 = .nx fr2 ∨ b fr1 = .ct fr2) ∧ P (done ++ [y]) fr2) : ∃ fr', forA g b ys fr = .nx fr' ∧ P ys fr' := by
  have go : ∀ (zs done : List PyData) (fr : Fr), ys = done ++ zs → P done fr → ∃ fr', forA g b zs fr = .nx fr' ∧ P ys fr' := by
    intro zs
    induction zs with
    | nil => intro done fr e h; exact ⟨fr, rfl, by rw [e, List.append_nil]; exact h⟩
    | cons y zs ih =>
      intro done fr e h
      obtain ⟨fr1, fr2, h1, h2, h3⟩ := st done y zs fr e h
      obtain ⟨fr', h4, h5⟩ := ih (done ++ [y]) fr2 (by rw [e]; simp) h3
      refine ⟨fr', ?_, h5⟩
      unfold forA
      rw [h1]
      rcases h2 with h2 | h2 <;> simp only [h2] <;> exact h4
  exact go ys [] fr rfl h0
theorem compA_all {own : List Nat} {g : Tg} {t : Fr → Res Bool} {f : Fr → Res AV} {vars : List (Option AV)} {bs : Nat} (J : List PyData → List PyData → List Cell → Prop) (ys : List PyData) (cs : List Cell) (h0 : J [] [] cs)
    (st : ∀ done y rest acc cs, ys = done ++ y :: rest → J done acc cs → ∃ fr1 b fr2, g y ⟨kill own vars, cs, bs⟩ = some fr1 ∧ t fr1 = .ok b fr2 ∧ (b = false → J (done ++ [y]) acc fr2.cells) ∧ (b = true → ∃ z fr3, f fr2 = .ok (.dat z) fr3 ∧ J (done ++ [y]) (acc ++ [z]) fr3.cells)) :
    ∃ acc' cs', compA own g t f vars bs ys [] cs = some (acc', cs') ∧ J ys acc' cs' := by
  have go : ∀ (zs done acc : List PyData) (cs : List Cell), ys = done ++ zs → J done acc cs → ∃ acc' cs', compA own g t f vars bs zs acc cs = some (acc', cs') ∧ J ys acc' cs' := by
    intro zs
    induction zs with
    | nil => intro done acc cs e h; exact ⟨acc, cs, rfl, by rw [e, List.append_nil]; exact h⟩
    | cons y zs ih =>
      intro done acc cs e h
      obtain ⟨fr1, b, fr2, h1, h2, h3, h4⟩ := st done y zs acc cs e h
      unfold compA
      rw [h1]
      simp only [h2]
      cases b with
      | false =>
        simp only [Bool.false_eq_true, if_false]
        exact ih (done ++ [y]) acc fr2.cells (by rw [e]; simp) (h3 rfl)
      | true =>
        simp only [if_true]
        obtain ⟨z, fr3, h5, h6⟩ := h4 rfl
        simp only [h5]
        exact ih (done ++ [y]) (acc ++ [z]) fr3.cells (by rw [e]; simp) h6
  exact go ys [] [] cs rfl h0

/-! ### numbers -/
theorem mulOk_of {i j : Int} (hi : i.natAbs < 2 ^ 1000) (hj : j.natAbs < 2 ^ 1000) : mulOk i j = true := by
  unfold mulOk
  refine decide_eq_true ?_
  have h1 : i.natAbs.log2 ≤ 1000 := by
    by_cases h : i.natAbs = 0
    · rw [h]; simp
    · exact Nat.le_of_lt ((Nat.log2_lt h).mpr hi)
  have h2 : j.natAbs.log2 ≤ 1000 := by
    by_cases h : j.natAbs = 0
    · rw [h]; simp
    · exact Nat.le_of_lt ((Nat.log2_lt h).mpr hj)
  show i.natAbs.log2 + j.natAbs.log2 < 1000000
  omega
theorem powOk_of {i : Int} {j : Nat} (hi : i.natAbs < 2 ^ 64) (hj : j ≤ 1000) : powOk i j = true := by
  unfold powOk
  refine decide_eq_true ⟨by omega, by omega, hi⟩
theorem divOk_of {j : Int} (h0 : 0 < j) (hj : j.natAbs < 2 ^ 1000) : divOk j = true := by
  unfold divOk
  refine decide_eq_true ⟨h0, ?_⟩
  have := (Nat.log2_lt (n := j.natAbs) (k := 1000) (by omega)).mpr hj
  omega
theorem two_pow_le {n : Nat} {i : Int} (h : i.natAbs < 2 ^ 64) : i.natAbs < 2 ^ 1000 := Nat.lt_of_lt_of_le h (Nat.pow_le_pow_right (by decide) (by decide))
end G
/-! MB: what the laws draw. -/
namespace G
open PySem PySem.Spec PyProof.Rows L2
def b__law_deck : Fr → SRes :=
  sSeq (sIf (xB (xOp2 dGe (xVar 0) (xOp2 dPow (xC (.int 10)) (xC (.int 18))))) (sRet (xLst (xCons (xOp2 dSub (xVar 0) (xOp2 dPow (xC (.int 10)) (xC (.int 18)))) (xCons (xOp2 dMod (xVar 0) (xC (.int 2147483579))) (xCons (xVar 1) (xNil)))))) (sNx))
  (sRet (xLst (xCons (xC (.int 0)) (xCons (xOp2 dMod (xVar 0) (xC (.int 2147483579))) (xCons (xVar 1) (xNil))))))
def m__law_deck : AFun := mkFun 2 2 b__law_deck

def b__law_pick : Fr → SRes :=
  sSeq (sIf (xB (xOp2 dGt (xIx (xVar 0) (xC (.int 0))) (xC (.int 1)))) (sSeq (sSet 2 (xOp2 dMod (xIx (xVar 0) (xC (.int 0))) (xVar 1)))
  (sSeq (sSetIx 0 (xC (.int 0)) (xOp2 dFdiv (xIx (xVar 0) (xC (.int 0))) (xVar 1)))
  (sRet (xVar 2)))) (sNx))
  (sSeq (sSetIx 0 (xC (.int 2)) (xOp2 dAdd (xIx (xVar 0) (xC (.int 2))) (xC (.int 1))))
  (sSeq (sSet 3 (xOp2 dMod (xOp2 dPow (xOp2 dAdd (xIx (xVar 0) (xC (.int 1))) (xOp2 dMul (xC (.int 15485867)) (xIx (xVar 0) (xC (.int 2))))) (xC (.int 5))) (xC (.int 2147483647))))
  (sSeq (sSet 2 (xOp2 dFdiv (xOp2 dMod (xOp2 dPow (xOp2 dAdd (xVar 3) (xOp2 dMul (xC (.int 7919)) (xIx (xVar 0) (xC (.int 2))))) (xC (.int 3))) (xC (.int 2147483629))) (xC (.int 32))))
  (sRet (xOp2 dMod (xVar 2) (xVar 1))))))
def m__law_pick : AFun := mkFun 4 2 b__law_pick

def b__law_one : Fr → SRes :=
  sRet (xIx (xVar 1) (xCall m__law_pick (xCons (xVar 0) (xCons (xB1 dLen (xCons (xVar 1) (xNil))) (xNil)))))
def m__law_one : AFun := mkFun 2 2 b__law_one

def b__law_frac_t1 : Fr → Res Bool :=
  xB (xOp2 dGt (xVar 3) (xC (.int 0)))
def b__law_frac_l1 : Fr → SRes :=
  sKill [4] (sSeq (sSet 4 (xOp2 dMod (xVar 2) (xVar 3)))
  (sSeq (sSet 2 (xVar 3))
  (sSet 3 (xVar 4))))
def b__law_frac : Fr → SRes :=
  sSeq (sPar 2 3 (xCons (xB1 dAbs (xCons (xVar 0) (xNil))) (xCons (xB1 dAbs (xCons (xVar 1) (xNil))) (xNil))))
  (sSeq (sWh (b__law_frac_t1) (b__law_frac_l1) (fun fr => natOf 3 fr + 2))
  (sKill [3, 4] (sRet (xTup (xCons (xOp2 dFdiv (xVar 0) (xVar 2)) (xCons (xOp2 dFdiv (xVar 1) (xVar 2)) (xNil)))))))
def m__law_frac : AFun := mkFun 5 2 b__law_frac

def b__law_amount : Fr → SRes :=
  sRet (xCall m__law_frac (xCons (xOp2 dAdd (xC (.int 1)) (xCall m__law_pick (xCons (xVar 0) (xCons (xC (.int 40)) (xNil))))) (xCons (xCall m__law_one (xCons (xVar 0) (xCons (xLst (xCons (xC (.int 1)) (xCons (xC (.int 1)) (xCons (xC (.int 2)) (xCons (xC (.int 3)) (xCons (xC (.int 7)) (xNil))))))) (xNil)))) (xNil))))
def m__law_amount : AFun := mkFun 1 1 b__law_amount

def b__law_marks_t1 : Fr → Res Bool :=
  xB (xOp2 dEq (xCall m__law_pick (xCons (xVar 0) (xCons (xVar 1) (xNil)))) (xC (.int 0)))
def b__law_marks_e1 : Fr → Res AV :=
  xVar 3
def b__law_marks : Fr → SRes :=
  sSeq (sSet 2 (xLst (xCons (xC (.str "dairy")) (xCons (xC (.str "egg")) (xCons (xC (.str "gluten")) (xCons (xC (.str "nuts")) (xNil)))))))
  (sRet (xB1 dTuple (xCons (xComp [3] (xItems (xVar 2)) (tName 3) (b__law_marks_t1) (b__law_marks_e1)) (xNil))))
def m__law_marks : AFun := mkFun 4 2 b__law_marks

def b__law_goods_l1 : Fr → SRes :=
  sKill [3] (sSeq (sSet 3 (xCall m__law_one (xCons (xVar 0) (xCons (xLst (xCons (xC (.int 0)) (xCons (xC (.int 1)) (xCons (xC (.int 3)) (xCons (xC (.int 30)) (xNil)))))) (xNil)))))
  (sApp 1 (xTup (xCons (xVar 2) (xCons (xOp2 dAdd (xC (.int 1)) (xCall m__law_pick (xCons (xVar 0) (xCons (xC (.int 1000)) (xNil))))) (xCons (xCall m__law_pick (xCons (xVar 0) (xCons (xC (.int 500)) (xNil)))) (xCons (xVar 3) (xCons (xCall m__law_marks (xCons (xVar 0) (xCons (xC (.int 3)) (xNil)))) (xNil)))))))))
def b__law_goods : Fr → SRes :=
  sSeq (sSet 1 (xNewL (xNil)))
  (sSeq (sFor (xItems (xSl (xLst (xCons (xC (.str "apple")) (xCons (xC (.str "eggs")) (xCons (xC (.str "flour")) (xCons (xC (.str "milk")) (xCons (xC (.str "nut")) (xCons (xC (.str "salt")) (xNil)))))))) (xNo) (xSo (xOp2 dAdd (xC (.int 2)) (xCall m__law_pick (xCons (xVar 0) (xCons (xC (.int 5)) (xNil)))))))) (tName 2) (b__law_goods_l1))
  (sKill [2, 3] (sRet (xB1 dTuple (xCons (xVar 1) (xNil))))))
def m__law_goods : AFun := mkFun 4 1 b__law_goods

def b__law_store_l1 : Fr → SRes :=
  sKill [3] (sDSet 2 (xTup (xCons (xIx (xCall m__law_one (xCons (xVar 0) (xCons (xVar 1) (xNil)))) (xC (.int 0))) (xCons (xCall m__law_pick (xCons (xVar 0) (xCons (xC (.int 12)) (xNil)))) (xNil)))) (xCall m__law_amount (xCons (xVar 0) (xNil))))
def b__law_store_e1 : Fr → Res AV :=
  xOp2 dAdd (xVar 4) (xTup (xCons (xDGet (xVar 2) (xVar 4)) (xNil)))
def b__law_store : Fr → SRes :=
  sSeq (sSet 2 (xNewD true))
  (sSeq (sFor (xRange1 (xCall m__law_pick (xCons (xVar 0) (xCons (xC (.int 9)) (xNil))))) (tName 3) (b__law_store_l1))
  (sKill [3] (sRet (xB1 dTuple (xCons (xComp [4] (xItems (xD1 dSortedK (xVar 2))) (tName 4) (xYes) (b__law_store_e1)) (xNil))))))
def m__law_store : AFun := mkFun 5 2 b__law_store

/-! ### the deck -/
structure Dk where
  a : Int
  b : Int
  c : Int
def Dk.l (d : Dk) : List PyData := [.int d.a, .int d.b, .int d.c]
/-- n more may be drawn -/
structure Dk.ok (n : Nat) (d : Dk) : Prop where
  b0 : 0 ≤ d.b
  b1 : d.b < 2147483648
  c0 : 0 ≤ d.c
  c1 : d.c + n ≤ 100000000
theorem Dk.ok.less {n m : Nat} {d : Dk} (h : d.ok n) (hm : m ≤ n) : d.ok m := ⟨h.b0, h.b1, h.c0, by have := h.c1; omega⟩
theorem s_deck (cell t : Int) (ht : 0 ≤ t) (ht2 : t ≤ 1000) : ∃ d : Dk, m__law_deck [.dat (.int cell), .dat (.int t)] [] = .ok (.dat (.list d.l)) [] ∧ d.ok 90000000 := by
  have p1 : powOk 10 18 = true := by decide
  have h0 : 0 ≤ cell % 2147483579 := Int.emod_nonneg _ (by decide)
  have h1 : cell % 2147483579 < 2147483579 := Int.emod_lt_of_pos _ (by decide)
  unfold m__law_deck b__law_deck
  by_cases h : 1000000000000000000 ≤ cell
  · refine ⟨⟨cell - 1000000000000000000, cell % 2147483579, t⟩, ?_, ⟨h0, by show cell % _ < _; omega, ht, by show t + _ ≤ _; omega⟩⟩
    simp [Dk.l, dGe, dPow, p1, h, dSub, dMod]
  · refine ⟨⟨0, cell % 2147483579, t⟩, ?_, ⟨h0, by show cell % _ < _; omega, ht, by show t + _ ≤ _; omega⟩⟩
    simp [Dk.l, dGe, dPow, p1, h, dSub, dMod]
theorem s_pick {n : Nat} {d : Dk} {k : Int} (h : d.ok (n + 1)) (hk : 0 < k) (hk2 : k < 2147483648) : ∃ v d', m__law_pick [.cel 0, .dat (.int k)] [.lst d.l] = .ok (.dat (.int v)) [.lst (Dk.l d')] ∧ d'.ok n ∧ 0 ≤ v ∧ v < k := by
  obtain ⟨b0, b1, c0, c1⟩ := h
  unfold m__law_pick b__law_pick
  by_cases ha : 1 < d.a
  · refine ⟨d.a % k, ⟨d.a / k, d.b, d.c⟩, ?_, ⟨b0, b1, c0, by show d.c + _ ≤ _; omega⟩, Int.emod_nonneg _ (by omega), Int.emod_lt_of_pos _ hk⟩
    have hdk : divOk k = true := divOk_of hk (two_pow_le (n := 0) (by omega))
    simp [Dk.l, ha, hk, dIx, atI, ixN, dGt, dMod, dFdiv, hdk]
  · have m1 : mulOk 15485867 (d.c + 1) = true := mulOk_of (two_pow_le (n := 0) (by decide)) (two_pow_le (n := 0) (by omega))
    have p1 : powOk (d.b + 15485867 * (d.c + 1)) 5 = true := powOk_of (j := 5) (by omega) (by omega)
    have m2 : mulOk 7919 (d.c + 1) = true := mulOk_of (two_pow_le (n := 0) (by decide)) (two_pow_le (n := 0) (by omega))
    generalize hz : (d.b + 15485867 * (d.c + 1)) ^ 5 % 2147483647 = z
    have z0 : 0 ≤ z := by rw [← hz]; exact Int.emod_nonneg _ (by decide)
    have z1 : z < 2147483647 := by rw [← hz]; exact Int.emod_lt_of_pos _ (by decide)
    have p2 : powOk (z + 7919 * (d.c + 1)) 3 = true := powOk_of (j := 3) (by omega) (by omega)
    have d32 : divOk 32 = true := divOk_of (by decide) (two_pow_le (n := 0) (by decide))
    refine ⟨(z + 7919 * (d.c + 1)) ^ 3 % 2147483629 / 32 % k, ⟨d.a, d.b, d.c + 1⟩, ?_, ⟨b0, b1, by show 0 ≤ d.c + 1; omega, by show d.c + 1 + _ ≤ _; omega⟩, Int.emod_nonneg _ (by omega), Int.emod_lt_of_pos _ hk⟩
    simp [Dk.l, ha, hk, dIx, atI, ixN, dGt, dMod, dFdiv, dAdd, dMul, dPow, m1, p1, m2, hz, p2, d32]
theorem atI_of {xs : List PyData} {v : Int} (h0 : 0 ≤ v) (h1 : v < xs.length) : ∃ x, atI xs v = some x ∧ x ∈ xs := by
  have hl : v.toNat < xs.length := by omega
  refine ⟨xs[v.toNat], ?_, List.getElem_mem hl⟩
  unfold atI ixN
  simp [h0, h1, hl]
theorem s_one {n : Nat} {d : Dk} {xs : List PyData} (h : d.ok (n + 1)) (hx : 0 < xs.length) (hx2 : xs.length < 2147483648) : ∃ x d', m__law_one [.cel 0, .dat (.list xs)] [.lst d.l] = .ok (.dat x) [.lst (Dk.l d')] ∧ d'.ok n ∧ x ∈ xs := by
  obtain ⟨v, d', e, h1, h2, h3⟩ := s_pick h (k := xs.length) (by omega) (by omega)
  obtain ⟨x, hx3, hm⟩ := atI_of h2 h3
  refine ⟨x, d', ?_, h1, hm⟩
  unfold m__law_one b__law_one
  simp [e, dIx, hx3]
theorem s_oneT {n : Nat} {d : Dk} {xs : List PyData} (h : d.ok (n + 1)) (hx : 0 < xs.length) (hx2 : xs.length < 2147483648) : ∃ x d', m__law_one [.cel 0, .dat (.tuple xs)] [.lst d.l] = .ok (.dat x) [.lst (Dk.l d')] ∧ d'.ok n ∧ x ∈ xs := by
  obtain ⟨v, d', e, h1, h2, h3⟩ := s_pick h (k := xs.length) (by omega) (by omega)
  obtain ⟨x, hx3, hm⟩ := atI_of h2 h3
  refine ⟨x, d', ?_, h1, hm⟩
  unfold m__law_one b__law_one
  simp [e, dIx, hx3]

/-! ### fractions -/
theorem frac_loop (T B : AV) : ∀ (n x y : Nat) (r : Option AV) (cs : List Cell) (bs : Nat), y < n → ∃ r', whA b__law_frac_t1 b__law_frac_l1 n ⟨[some T, some B, some (.dat (.int x)), some (.dat (.int y)), r], cs, bs⟩ = .nx ⟨[some T, some B, some (.dat (.int (Nat.gcd x y : Nat))), some (.dat (.int 0)), r'], cs, bs⟩
  | 0, _, _, _, _, _, h => by omega
  | n + 1, x, 0, r, cs, bs, h => by
    refine ⟨r, ?_⟩
    unfold whA
    simp [b__law_frac_t1, dGt]
  | n + 1, x, y + 1, r, cs, bs, h => by
    have hlt : x % (y + 1) < y + 1 := Nat.mod_lt _ (by omega)
    obtain ⟨r', ih⟩ := frac_loop T B n (y + 1) (x % (y + 1)) (some (.dat (.int ((x % (y + 1) : Nat) : Int)))) cs bs (by omega)
    refine ⟨r', ?_⟩
    unfold whA
    have e1 : (0 : Int) < (y : Int) + 1 := by omega
    have e2 : ((x : Int) % ((y : Int) + 1)) = ((x % (y + 1) : Nat) : Int) := by simp
    have e3 : Nat.gcd x (y + 1) = Nat.gcd (y + 1) (x % (y + 1)) := by rw [Nat.gcd_comm x, Nat.gcd_rec, Nat.gcd_comm]
    rw [e3, ← ih]
    simp [b__law_frac_t1, b__law_frac_l1, dGt, dMod, e1]
theorem abs_nat (i : Int) : (if i < 0 then -i else i) = ((i.natAbs : Nat) : Int) := by split <;> omega
theorem s_frac (p q : Int) (hq : 0 < q) (hq2 : q.natAbs < 2 ^ 1000) : m__law_frac [.dat (.int p), .dat (.int q)] [] = .ok (.dat (.tuple [.int (p / (Nat.gcd p.natAbs q.natAbs : Nat)), .int (q / (Nat.gcd p.natAbs q.natAbs : Nat))])) [] := by
  have g0 : 0 < Nat.gcd p.natAbs q.natAbs := Nat.gcd_pos_of_pos_right _ (by omega)
  have g1 : Nat.gcd p.natAbs q.natAbs ≤ q.natAbs := Nat.gcd_le_right _ (by omega)
  have hd : divOk ((Nat.gcd p.natAbs q.natAbs : Nat) : Int) = true := divOk_of (by omega) (by rw [Int.natAbs_natCast]; omega)
  obtain ⟨r', e⟩ := frac_loop (.dat (.int p)) (.dat (.int q)) (q.natAbs + 2) p.natAbs q.natAbs none [] 0 (by omega)
  unfold m__law_frac b__law_frac
  simp [abs_nat, natOf, e, dFdiv, hd]
/-- an amount: two whole numbers above nought -/
inductive IsAmt : PyData → Prop
  | mk {p q : Int} : 0 < p → 0 < q → p ≤ 40 → q ≤ 7 → Nat.gcd p.natAbs q.natAbs = 1 → IsAmt (.tuple [.int p, .int q])
theorem s_amount {n : Nat} {d : Dk} (h : d.ok (n + 2)) : ∃ x d', m__law_amount [.cel 0] [.lst d.l] = .ok (.dat x) [.lst (Dk.l d')] ∧ d'.ok n ∧ IsAmt x := by
  obtain ⟨v, d1, e1, h1, v0, v1⟩ := s_pick (n := n + 1) h (k := 40) (by decide) (by decide)
  obtain ⟨x, d2, e2, h2, hm⟩ := s_one (n := n) h1 (xs := [.int 1, .int 1, .int 2, .int 3, .int 7]) (by decide) (by decide)
  obtain ⟨q, rfl, q0, q1⟩ : ∃ q : Int, x = .int q ∧ 0 < q ∧ q ≤ 7 := by
    simp at hm
    rcases hm with rfl | rfl | rfl | rfl <;> exact ⟨_, rfl, by decide, by decide⟩
  have e3 := s_frac (1 + v) q q0 (two_pow_le (n := 0) (by omega))
  have g0 : 0 < Nat.gcd (1 + v).natAbs q.natAbs := Nat.gcd_pos_of_pos_right _ (by omega)
  generalize hg : Nat.gcd (1 + v).natAbs q.natAbs = g at *
  have d1' : g ∣ (1 + v).natAbs := by rw [← hg]; exact Nat.gcd_dvd_left _ _
  have d2' : g ∣ q.natAbs := by rw [← hg]; exact Nat.gcd_dvd_right _ _
  obtain ⟨a, ha⟩ := d1'
  obtain ⟨b, hb⟩ := d2'
  have pe : 1 + v = (g : Int) * a := by
    have : ((1 + v).natAbs : Int) = ((g * a : Nat) : Int) := by rw [ha]
    rw [Int.natCast_mul] at this; omega
  have qe : q = (g : Int) * b := by
    have : (q.natAbs : Int) = ((g * b : Nat) : Int) := by rw [hb]
    rw [Int.natCast_mul] at this; omega
  have gi : (g : Int) ≠ 0 := by omega
  have pd : (1 + v) / (g : Int) = a := by rw [pe]; exact Int.mul_ediv_cancel_left _ gi
  have qd : q / (g : Int) = b := by rw [qe]; exact Int.mul_ediv_cancel_left _ gi
  rw [pd, qd] at e3
  have a0 : 0 < a := by
    rcases Nat.eq_zero_or_pos a with z | z
    · rw [z] at ha; omega
    · exact z
  have b0 : 0 < b := by
    rcases Nat.eq_zero_or_pos b with z | z
    · rw [z] at hb; omega
    · exact z
  have ale : a ≤ g * a := Nat.le_mul_of_pos_left _ g0
  have ble : b ≤ g * b := Nat.le_mul_of_pos_left _ g0
  refine ⟨_, d2, ?_, h2, .mk (p := a) (q := b) (by omega) (by omega) (by omega) (by omega) ?_⟩
  · unfold m__law_amount b__law_amount
    simp [e1, dAdd, e2, e3]
  · rw [Int.natAbs_natCast, Int.natAbs_natCast]
    have z : Nat.gcd (g * a) (g * b) = g := by rw [← ha, ← hb]; exact hg
    rw [Nat.gcd_mul_left] at z
    exact Nat.eq_of_mul_eq_mul_left g0 (by omega)

/-! ### marks, goods -/
theorem s_marks {n : Nat} {d : Dk} {k : Int} (h : d.ok (n + 4)) (hk : 0 < k) (hk2 : k < 2147483648) : ∃ xs d', m__law_marks [.cel 0, .dat (.int k)] [.lst d.l] = .ok (.dat (.tuple xs)) [.lst (Dk.l d')] ∧ d'.ok n ∧ List.Sublist xs [.str "dairy", .str "egg", .str "gluten", .str "nuts"] := by
  have key := compA_all (own := [3]) (g := tName 3) (t := b__law_marks_t1) (f := b__law_marks_e1) (vars := [some (.cel 0), some (.dat (.int k)), some (.dat (.list [.str "dairy", .str "egg", .str "gluten", .str "nuts"])), none]) (bs := 1)
    (fun done acc cs => List.Sublist acc done ∧ ∃ d' : Dk, cs = [.lst d'.l] ∧ d'.ok (n + 4 - done.length)) [.str "dairy", .str "egg", .str "gluten", .str "nuts"] [.lst d.l] ⟨.slnil, d, rfl, h⟩ ?_
  · obtain ⟨acc, cs, e, hs, d', rfl, hd⟩ := key
    refine ⟨acc, d', ?_, by simpa using hd, by simpa using hs⟩
    unfold m__law_marks b__law_marks
    simp [xComp, e]
  · rintro done y rest acc cs hy ⟨hs, d', rfl, hd⟩
    have hl : done.length < 4 := by
      have := congrArg List.length hy
      simp at this; omega
    obtain ⟨v, d2, e, h2, v0, v1⟩ := s_pick (n := n + 4 - (done ++ [y]).length) (d := d') (hd.less (by simp; omega)) hk hk2
    have z1 : eqOk (.int v) (.int 0) = true := by unfold eqOk; exact decide_eq_true (by simp [PyData.depth])
    refine ⟨_, PyData.eqv (.int v) (.int 0), ⟨[some (.cel 0), some (.dat (.int k)), some (.dat (.list [.str "dairy", .str "egg", .str "gluten", .str "nuts"])), some (.dat y)], [.lst d2.l], 1⟩, rfl, ?_, fun hb => ?_, fun hb => ⟨y, _, rfl, ?_⟩⟩
    · simp [b__law_marks_t1, e, dEq, z1]
    · exact ⟨hs.trans (List.sublist_append_left _ _), d2, rfl, h2⟩
    · exact ⟨List.Sublist.append hs (List.Sublist.refl _), d2, rfl, h2⟩
/-- a good, as the laws draw it -/
inductive IsGd : PyData → Prop
  | mk {z : Str} {a b c : Int} {ms : List PyData} : z ∈ (["apple", "eggs", "flour", "milk", "nut", "salt"] : List Str) → 0 < a → a ≤ 1000 → 0 ≤ b → b < 500 → c ∈ ([0, 1, 3, 30] : List Int) → List.Sublist ms [.str "dairy", .str "egg", .str "gluten", .str "nuts"] → IsGd (.tuple [.str z, .int a, .int b, .int c, .tuple ms])
def nmD : PyData → PyData
  | .tuple (x :: _) => x
  | _ => .none
abbrev gnames : List PyData := [.str "apple", .str "eggs", .str "flour", .str "milk", .str "nut", .str "salt"]
theorem cut_take (xs : List PyData) (v : Int) (h0 : 0 ≤ v) : cutD xs none (some v) = xs.take v.toNat := by
  unfold cutD HT.sIx
  simp only [List.drop_zero, Nat.sub_zero]
  rw [if_neg (by omega), List.take_eq_take_iff]
  omega
theorem s_goods {n : Nat} {d : Dk} (h : d.ok (n + 43)) : ∃ gs d', m__law_goods [.cel 0] [.lst d.l] = .ok (.dat (.tuple gs)) [.lst (Dk.l d')] ∧ d'.ok n ∧ (∀ g ∈ gs, IsGd g) ∧ 2 ≤ gs.length ∧ gs.map nmD = gnames.take gs.length := by
  obtain ⟨v, d1, e1, h1, v0, v1⟩ := s_pick (n := n + 42) h (k := 5) (by decide) (by decide)
  have key := forA_all (g := tName 2) (b := b__law_goods_l1) (fun done fr => ∃ (d' : Dk) (gs : List PyData) (v2 v3 : Option AV), fr = ⟨[some (.cel 0), some (.cel 1), v2, v3], [.lst d'.l, .lst gs], 1⟩ ∧ d'.ok (n + 7 * (6 - done.length)) ∧ (∀ g ∈ gs, IsGd g) ∧ gs.map nmD = done)
    (gnames.take (2 + v).toNat) ⟨[some (.cel 0), some (.cel 1), none, none], [.lst d1.l, .lst []], 1⟩ ⟨d1, [], none, none, rfl, h1, (fun g hg => nomatch hg), rfl⟩ ?_
  · obtain ⟨fr', e, d', gs, v2, v3, rfl, h2, h3, h4⟩ := key
    have hl : gs.length = (gnames.take (2 + v).toNat).length := by rw [← h4, List.length_map]
    have hl2 : gs.length = min (2 + v).toNat 6 := by rw [hl, List.length_take]; rfl
    refine ⟨gs, d', ?_, h2.less (by omega), h3, by omega, ?_⟩
    · unfold m__law_goods b__law_goods
      simp [e1, dAdd, dSl, cut_take _ (2 + v) (by omega), e]
    · rw [h4, hl, List.length_take, List.take_eq_take_iff]
      simp
  · rintro done y rest fr hy ⟨d', gs, v2, v3, rfl, hd, hg, hm⟩
    have hlen : done.length < 6 := by
      have := congrArg List.length hy
      rw [List.length_take] at this
      simp at this; omega
    have ymem : y ∈ gnames := List.mem_of_mem_take (i := (2 + v).toNat) (by rw [hy]; simp)
    obtain ⟨z, rfl, hz⟩ : ∃ z : Str, y = .str z ∧ z ∈ (["apple", "eggs", "flour", "milk", "nut", "salt"] : List Str) := by
      simp [gnames] at ymem
      rcases ymem with rfl | rfl | rfl | rfl | rfl | rfl <;> exact ⟨_, rfl, by simp⟩
    obtain ⟨m, hm7⟩ : ∃ m, n + 7 * (6 - done.length) = n + 7 * (6 - (done ++ [PyData.str z]).length) + 7 ∧ m = 0 := ⟨0, by simp; omega, rfl⟩
    rw [hm7.1] at hd
    generalize n + 7 * (6 - (done ++ [PyData.str z]).length) = q at *
    obtain ⟨x, d2, e2, h2, hx⟩ := s_one (n := q + 6) hd (xs := [.int 0, .int 1, .int 3, .int 30]) (by decide) (by decide)
    obtain ⟨v3, d3, e3, h3, a0, a1⟩ := s_pick (n := q + 5) h2 (k := 1000) (by decide) (by decide)
    obtain ⟨v4, d4, e4, h4, b0, b1⟩ := s_pick (n := q + 4) h3 (k := 500) (by decide) (by decide)
    obtain ⟨ms, d5, e5, h5, hs⟩ := s_marks (n := q) h4 (k := 3) (by decide) (by decide)
    obtain ⟨c, rfl, hc⟩ : ∃ c : Int, x = .int c ∧ c ∈ ([0, 1, 3, 30] : List Int) := by
      simp at hx
      rcases hx with rfl | rfl | rfl | rfl <;> exact ⟨_, rfl, by simp⟩
    have gl : gs.length < 1000000 := by
      have := congrArg List.length hm
      simp at this; omega
    refine ⟨_, ⟨[some (.cel 0), some (.cel 1), some (.dat (.str z)), some (.dat (.int c))], [.lst d5.l, .lst (gs ++ [.tuple [.str z, .int (1 + v3), .int v4, .int c, .tuple ms]])], 1⟩, rfl, .inl ?_, d5, _, _, _, rfl, h5, fun g hg' => ?_, ?_⟩
    · simp [b__law_goods_l1, e2, dAdd, e3, e4, e5, gl]
    · rcases List.mem_append.mp hg' with z1 | z1
      · exact hg g z1
      · cases List.mem_singleton.mp z1
        exact .mk hz (by omega) (by omega) b0 b1 hc hs
    · rw [List.map_append, hm]; rfl
/-! ### order -/
open PySem.W (dataLt dataLe alike keyToks)
theorem srt_eq (x y : PyData) : srtLe x y = !dataLt y x := rfl
theorem srt_total : PySem.W.TotalLe srtLe := PySem.W.sortLe_total _ _ _
theorem srt_pw (l : List PyData) : (l.mergeSort srtLe).Pairwise (fun a b => srtLe a b = true) := PySem.W.sort_pairwise srt_total l
theorem perm_sorted_eq {α : Type} {le : α → α → Prop} : ∀ {l m : List α}, l.Perm m → l.Pairwise le → m.Pairwise le → (∀ a ∈ l, ∀ b ∈ l, le a b → le b a → a = b) → l = m
  | [], m, p, _, _, _ => p.nil_eq
  | a :: l, [], p, _, _, _ => absurd p (by simp)
  | a :: l, b :: m, p, h1, h2, an => by
    rw [List.pairwise_cons] at h1 h2
    have e : a = b := by
      have ha : a ∈ b :: m := p.mem_iff.mp (List.mem_cons_self ..)
      have hb : b ∈ a :: l := p.mem_iff.mpr (List.mem_cons_self ..)
      rcases List.mem_cons.mp ha with e | ha
      · exact e
      · rcases List.mem_cons.mp hb with e | hb
        · exact e.symm
        · exact an a (List.mem_cons_self ..) b (List.mem_cons_of_mem _ hb) (h1.1 b hb) (h2.1 a ha)
    subst e
    rw [perm_sorted_eq p.cons_inv h1.2 h2.2 fun x hx y hy => an x (List.mem_cons_of_mem _ hx) y (List.mem_cons_of_mem _ hy)]
/-- strictly rising -/
abbrev Rise (l : List PyData) : Prop := l.Pairwise fun a b => dataLt a b = true
theorem lt_asym {a b : PyData} (h : dataLt a b = true) : dataLt b a = false := by
  cases q : dataLt b a with
  | false => rfl
  | true =>
    have := (listOrd itemOrd).trans (keyToks a) (keyToks b) (keyToks a) h q
    rw [(listOrd itemOrd).irrefl] at this
    cases this
theorem Rise.sorted {l m : List PyData} (h : Rise l) (p : m.Perm l) : m.mergeSort srtLe = l := by
  refine perm_sorted_eq (le := fun a b => srtLe a b = true) ((List.mergeSort_perm m srtLe).trans p) (srt_pw m) (h.imp fun hab => by rw [srt_eq, lt_asym hab]; rfl) fun a ha b hb h1 h2 => ?_
  have ha' : a ∈ l := ((List.mergeSort_perm m srtLe).trans p).mem_iff.mp ha
  have hb' : b ∈ l := ((List.mergeSort_perm m srtLe).trans p).mem_iff.mp hb
  rw [srt_eq] at h1 h2
  have n1 : dataLt b a = false := by simpa using h1
  have n2 : dataLt a b = false := by simpa using h2
  clear ha hb h1 h2 p
  induction h with
  | nil => cases ha'
  | cons hx _ ih =>
    rcases List.mem_cons.mp ha' with e | ha'
    · rcases List.mem_cons.mp hb' with e2 | hb'
      · rw [e, e2]
      · have := hx b hb'
        rw [← e, n2] at this; cases this
    · rcases List.mem_cons.mp hb' with e2 | hb'
      · have := hx a ha'
        rw [← e2, n1] at this; cases this
      · exact ih ha' hb'
theorem lt_total {a b : PyData} (h : keyToks a ≠ keyToks b) : dataLt a b = true ∨ dataLt b a = true := by
  rcases Classical.em (dataLt a b = true) with q | q
  · exact .inl q
  · rcases Classical.em (dataLt b a = true) with q2 | q2
    · exact .inr q2
    · exact absurd ((listOrd itemOrd).total (keyToks a) (keyToks b) (show dataLt a b = false by simpa using q) (show dataLt b a = false by simpa using q2)) h
/-! ### keys of stores, lots -/
theorem al_str (a b : Str) : alike (.str a) (.str b) = true := by simp [alike]
theorem al_int (a b : Int) : alike (.int a) (.int b) = true := by simp [alike]
theorem eqv_str (a b : Str) : PyData.eqv (.str a) (.str b) = (a == b) := rfl
theorem eqv_int (a b : Int) : PyData.eqv (.int a) (.int b) = (a == b) := rfl
theorem key_inj {a b : Str} {i j : Int} (h : keyToks (.tuple [.str a, .int i]) = keyToks (.tuple [.str b, .int j])) : a = b ∧ i = j := by
  simp [keyToks, PySem.W.keyToksAll] at h
  exact ⟨PySem.W.str_of_cps (by simpa using h.1), h.2⟩
theorem key_eqv (a b : Str) (i j : Int) : PyData.eqv (.tuple [.str a, .int i]) (.tuple [.str b, .int j]) = decide (a = b ∧ i = j) := by
  show ((a == b) && ((i == j) && true)) = _
  rw [Bool.and_true, Bool.beq_eq_decide_eq a b, Bool.beq_eq_decide_eq i j, Bool.decide_and]
theorem key_lot {a b : Str} {i j : Int} {x y : PyData} (h : dataLt (.tuple [.str a, .int i]) (.tuple [.str b, .int j]) = true) : dataLt (.tuple [.str a, .int i, x]) (.tuple [.str b, .int j, y]) = true := by
  rw [PySem.W.dataLt_tuple, PySem.W.dataLt_cons (al_str a b)] at h ⊢
  split at h
  · rename_i q
    rw [if_pos q]
    rw [PySem.W.dataLt_cons (al_int i j)] at h ⊢
    split at h
    · exact absurd h (by decide)
    · rename_i q2
      rw [if_neg q2]
      exact h
  · rename_i q
    rw [if_neg q]
    exact h
/-! ### a store -/
abbrev kOf (q : PyData × PyData) : PyData := q.1
inductive IsKey (names : List PyData) : PyData → Prop
  | mk {z : Str} {t : Int} : PyData.str z ∈ names → 0 ≤ t → t < 12 → IsKey names (.tuple [.str z, .int t])
theorem IsKey.eqv {ns : List PyData} {a b : PyData} (ha : IsKey ns a) (hb : IsKey ns b) : PyData.eqv a b = true ↔ a = b := by
  cases ha; cases hb
  rw [key_eqv]
  simp
theorem kput_keys {ns : List PyData} {kvs : List (PyData × PyData)} {k v : PyData} (hk : IsKey ns k) (hs : ∀ q ∈ kvs, IsKey ns q.1) : ((kvs.map (·.1)).Nodup → ((kput kvs k v).map (·.1)).Nodup) ∧ (∀ q ∈ kput kvs k v, (q.1 = k ∧ q.2 = v) ∨ q ∈ kvs) ∧ (kput kvs k v).length ≤ kvs.length + 1 := by
  unfold kput
  split
  · rename_i h
    refine ⟨fun nd => ?_, fun q hq => ?_, by simp⟩
    · have : (kvs.map fun q => if PyData.eqv q.1 k = true then (q.1, v) else q).map (·.1) = kvs.map (·.1) := by
        rw [List.map_map]
        refine List.map_congr_left fun q _ => ?_
        show (if PyData.eqv q.1 k = true then (q.1, v) else q).1 = q.1
        split <;> rfl
      rw [this]; exact nd
    · obtain ⟨q', hq', rfl⟩ := List.mem_map.mp hq
      split
      · rename_i h2
        exact .inl ⟨(hs q' hq').eqv hk |>.mp h2, rfl⟩
      · exact .inr hq'
  · rename_i h
    refine ⟨fun nd => ?_, fun q hq => ?_, by simp⟩
    · rw [List.map_append, List.nodup_append]
      refine ⟨nd, by simp, fun a ha b hb e => ?_⟩
      have hb' : b = k := by simpa using hb
      obtain ⟨q, hq, rfl⟩ := List.mem_map.mp ha
      apply h
      rw [kfind_any, List.any_eq_true]
      exact ⟨q, hq, by rw [(hs q hq).eqv hk, e, hb']⟩
    · rcases List.mem_append.mp hq with z | z
      · exact .inr z
      · have e := List.mem_singleton.mp z
        rw [e]; exact .inl ⟨rfl, rfl⟩
inductive IsLot (names : List PyData) : PyData → Prop
  | mk {z : Str} {t : Int} {x : PyData} : PyData.str z ∈ names → 0 ≤ t → t < 12 → IsAmt x → IsLot names (.tuple [.str z, .int t, x])
theorem keys_sortOk {ns : List PyData} {ks : List PyData} (h : ∀ k ∈ ks, IsKey ns k) (hl : ks.length ≤ 1000000) : sortOk ks = true := by
  unfold sortOk allAlike
  simp only [Bool.and_eq_true, Bool.or_eq_true, List.all_eq_true, decide_eq_true_eq]
  refine ⟨⟨⟨hl, fun x hx y hy => ?_⟩, .inl fun x hx => ?_⟩, fun x hx => ?_⟩
  · cases h x hx; cases h y hy; simp [alike, PySem.W.alikeAll]
  · cases h x hx; rfl
  · cases h x hx; simp [PyData.depth, PyData.depthAll]
theorem kfind_mem {ns : List PyData} {kvs : List (PyData × PyData)} (hs : ∀ q ∈ kvs, IsKey ns q.1) {k : PyData} (h : k ∈ kvs.map (·.1)) : ∃ v, kfind kvs k = some v ∧ (k, v) ∈ kvs := by
  induction kvs with
  | nil => simp at h
  | cons q kvs ih =>
    unfold kfind
    rw [List.find?_cons]
    have hk : IsKey ns k := by
      obtain ⟨q', h1, h2⟩ := List.mem_map.mp h
      rw [← h2]; exact hs q' h1
    cases e : PyData.eqv q.1 k with
    | true =>
      have := ((hs q (List.mem_cons_self ..)).eqv hk).mp e
      exact ⟨q.2, rfl, by rw [← this]; exact List.mem_cons_self ..⟩
    | false =>
      rw [List.map_cons] at h
      rcases List.mem_cons.mp h with z | z
      · rw [((hs q (List.mem_cons_self ..)).eqv hk).mpr z.symm] at e; cases e
      · obtain ⟨v, h1, h2⟩ := ih (fun q hq => hs q (List.mem_cons_of_mem _ hq)) z
        exact ⟨v, h1, List.mem_cons_of_mem _ h2⟩
theorem IsKey.kOk {ns : List PyData} {k : PyData} (h : IsKey ns k) : G.kOk true k = true := by
  cases h
  simp [G.kOk, nkO, nkOs, NestedKey.depth, NestedKey.depthAll]
def lotD (kvs : List (PyData × PyData)) (k : PyData) : PyData := match k, kfind kvs k with
  | .tuple ks, some v => .tuple (ks ++ [v])
  | _, _ => .none
theorem gd_nm {gs : List PyData} {g : PyData} (h : IsGd g) (hm : g ∈ gs) : ∃ z : Str, dIx g (.int 0) = some (.str z) ∧ PyData.str z ∈ gs.map nmD := by
  cases h with
  | @mk z a b c ms h1 h2 h3 h4 h5 h6 h7 =>
    refine ⟨z, by simp [dIx, atI, ixN], List.mem_map.mpr ⟨_, hm, rfl⟩⟩
theorem rangeD_len (lo : Int) (n : Nat) : (rangeD lo n).length = n := by simp [rangeD]
def hd2 : PyData → PyData
  | .tuple (a :: b :: _) => .tuple [a, b]
  | x => x
/-- keys strictly rising -/
abbrev RiseH (l : List PyData) : Prop := l.Pairwise fun a b => dataLt (hd2 a) (hd2 b) = true
theorem lots_riseH {ns : List PyData} {kvs : List (PyData × PyData)} (hs : ∀ q ∈ kvs, IsKey ns q.1 ∧ IsAmt q.2) (nd : (kvs.map (·.1)).Nodup) :
    RiseH ((((kvs.map (·.1)).mergeSort srtLe)).map (lotD kvs)) := by
  have hk : ∀ k ∈ (kvs.map (·.1)).mergeSort srtLe, IsKey ns k ∧ ∃ v, kfind kvs k = some v := fun k hk => by
    rw [List.mem_mergeSort] at hk
    obtain ⟨v, h1, h2⟩ := kfind_mem (fun q hq => (hs q hq).1) hk
    exact ⟨(hs _ h2).1, v, h1⟩
  have nd2 : ((kvs.map (·.1)).mergeSort srtLe).Nodup := (List.mergeSort_perm _ _).nodup_iff.mpr nd
  unfold RiseH
  rw [List.pairwise_map]
  have pw := srt_pw (kvs.map (·.1))
  refine (List.Pairwise.and pw nd2).imp_of_mem fun {a b} ha hb hab => ?_
  obtain ⟨h1, v1, e1⟩ := hk a ha
  obtain ⟨h2, v2, e2⟩ := hk b hb
  cases h1 with
  | @mk z t _ _ _ =>
    cases h2 with
    | @mk z' t' _ _ _ =>
      have lt : dataLt (.tuple [.str z, .int t]) (.tuple [.str z', .int t']) = true := by
        rcases lt_total (a := .tuple [.str z, .int t]) (b := .tuple [.str z', .int t']) fun e => hab.2 (by obtain ⟨r1, r2⟩ := key_inj e; rw [r1, r2]) with q | q
        · exact q
        · have := hab.1
          rw [srt_eq, q] at this; cases this
      have f1 : lotD kvs (.tuple [.str z, .int t]) = .tuple [.str z, .int t, v1] := by unfold lotD; rw [e1]; rfl
      have f2 : lotD kvs (.tuple [.str z', .int t']) = .tuple [.str z', .int t', v2] := by unfold lotD; rw [e2]; rfl
      rw [f1, f2]
      exact lt
theorem lots_rise {ns : List PyData} {kvs : List (PyData × PyData)} (hs : ∀ q ∈ kvs, IsKey ns q.1 ∧ IsAmt q.2) (nd : (kvs.map (·.1)).Nodup) :
    Rise ((((kvs.map (·.1)).mergeSort srtLe)).map (lotD kvs)) ∧ ∀ l ∈ (((kvs.map (·.1)).mergeSort srtLe)).map (lotD kvs), IsLot ns l := by
  have hk : ∀ k ∈ (kvs.map (·.1)).mergeSort srtLe, IsKey ns k ∧ ∃ v, kfind kvs k = some v ∧ IsAmt v := fun k hk => by
    rw [List.mem_mergeSort] at hk
    obtain ⟨v, h1, h2⟩ := kfind_mem (fun q hq => (hs q hq).1) hk
    exact ⟨(hs _ h2).1, v, h1, (hs _ h2).2⟩
  have nd2 : ((kvs.map (·.1)).mergeSort srtLe).Nodup := (List.mergeSort_perm _ _).nodup_iff.mpr nd
  refine ⟨?_, fun l hl => ?_⟩
  · unfold Rise
    rw [List.pairwise_map]
    have pw := srt_pw (kvs.map (·.1))
    refine (List.Pairwise.and pw nd2).imp_of_mem fun {a b} ha hb hab => ?_
    obtain ⟨h1, v1, e1, _⟩ := hk a ha
    obtain ⟨h2, v2, e2, _⟩ := hk b hb
    cases h1 with
    | @mk z t _ _ _ =>
      cases h2 with
      | @mk z' t' _ _ _ =>
        have lt : dataLt (.tuple [.str z, .int t]) (.tuple [.str z', .int t']) = true := by
          rcases lt_total (a := .tuple [.str z, .int t]) (b := .tuple [.str z', .int t']) fun e => hab.2 (by obtain ⟨r1, r2⟩ := key_inj e; rw [r1, r2]) with q | q
          · exact q
          · have := hab.1
            rw [srt_eq, q] at this; cases this
        have f1 : lotD kvs (.tuple [.str z, .int t]) = .tuple [.str z, .int t, v1] := by unfold lotD; rw [e1]; rfl
        have f2 : lotD kvs (.tuple [.str z', .int t']) = .tuple [.str z', .int t', v2] := by unfold lotD; rw [e2]; rfl
        rw [f1, f2]
        exact key_lot lt
  · obtain ⟨k, hk1, rfl⟩ := List.mem_map.mp hl
    obtain ⟨h1, v1, e1, a1⟩ := hk k hk1
    cases h1 with
    | @mk z t g1 g2 g3 =>
      have f1 : lotD kvs (.tuple [.str z, .int t]) = .tuple [.str z, .int t, v1] := by unfold lotD; rw [e1]; rfl
      rw [f1]
      exact .mk g1 g2 g3 a1
theorem s_store2 {n : Nat} {d : Dk} {gs : List PyData} (h : d.ok (n + 33)) (hg : ∀ g ∈ gs, ∃ z : Str, dIx g (.int 0) = some (.str z) ∧ PyData.str z ∈ gs.map nmD) (h0 : 0 < gs.length) (h1 : gs.length ≤ 6) : ∃ ls d', m__law_store [.cel 0, .dat (.tuple gs)] [.lst d.l] = .ok (.dat (.tuple ls)) [.lst (Dk.l d')] ∧ d'.ok n ∧ (∀ l ∈ ls, IsLot (gs.map nmD) l) ∧ Rise ls ∧ ls.length ≤ 8 ∧ RiseH ls := by
  obtain ⟨v, d1, e1, h2, v0, v1⟩ := s_pick (n := n + 32) h (k := 9) (by decide) (by decide)
  have key := forA_all (g := tName 3) (b := b__law_store_l1) (fun done fr => ∃ (d' : Dk) (kvs : List (PyData × PyData)) (v3 : Option AV), fr = ⟨[some (.cel 0), some (.dat (.tuple gs)), some (.cel 1), v3, none], [.lst d'.l, .dct true kvs], 1⟩ ∧ d'.ok (n + 4 * (8 - done.length)) ∧ (∀ q ∈ kvs, IsKey (gs.map nmD) q.1 ∧ IsAmt q.2) ∧ (kvs.map (·.1)).Nodup ∧ kvs.length ≤ done.length)
    (rangeD 0 v.toNat) ⟨[some (.cel 0), some (.dat (.tuple gs)), some (.cel 1), none, none], [.lst d1.l, .dct true []], 1⟩ ⟨d1, [], none, rfl, h2, (fun q hq => nomatch hq), .nil, Nat.le_refl _⟩ ?_
  · obtain ⟨fr', e, d', kvs, v3, rfl, h3, h4, h5, h6⟩ := key
    rw [rangeD_len] at h3 h6
    have sok := keys_sortOk (ks := kvs.map (·.1)) (fun k hk => by
      obtain ⟨q, hq, rfl⟩ := List.mem_map.mp hk
      exact (h4 q hq).1) (by rw [List.length_map]; omega)
    obtain ⟨r1, r2⟩ := lots_rise h4 h5
    refine ⟨((kvs.map (·.1)).mergeSort srtLe).map (lotD kvs), d', ?_, h3.less (by omega), r2, r1, by simp; omega, lots_riseH h4 h5⟩
    have rg : rgOk v = true := by unfold rgOk; exact decide_eq_true (by omega)
    have ec := compA_pure (own := [4]) (g := tName 4) (t := xYes) (f := b__law_store_e1) (vars := [some (.cel 0), some (.dat (.tuple gs)), some (.cel 1), none, none]) (bs := 1) (cs := [.lst d'.l, .dct true kvs]) (fun _ => true) (lotD kvs) ((kvs.map (·.1)).mergeSort srtLe) [] fun y hy => by
      rw [List.mem_mergeSort] at hy
      obtain ⟨w, f1, f2⟩ := kfind_mem (fun q hq => (h4 q hq).1) hy
      have hk := (h4 _ f2).1
      refine ⟨_, _, rfl, rfl, rfl, fun _ => ⟨⟨[some (.cel 0), some (.dat (.tuple gs)), some (.cel 1), none, some (.dat y)], [.lst d'.l, .dct true kvs], 1⟩, ?_, rfl⟩⟩
      have ko := hk.kOk
      cases hk with
      | @mk z t g1 g2 g3 =>
        have f3 : lotD kvs (.tuple [.str z, .int t]) = .tuple [.str z, .int t, w] := by unfold lotD; rw [f1]; rfl
        simp [b__law_store_e1, dget, ko, f1, f3, dAdd]
    rw [List.nil_append, List.filter_eq_self.mpr (fun _ _ => rfl)] at ec
    unfold m__law_store b__law_store
    have kl : kvs.length ≤ 1000000 := by omega
    simp [e1, rg, e, dSortedK, dSortL, sok, xComp, ec, kl]
  · rintro done y rest fr hy ⟨d', kvs, v3, rfl, hd, hs, nd, hl⟩
    have hlen : done.length < 8 := by
      have := congrArg List.length hy
      rw [rangeD_len] at this
      simp at this; omega
    obtain ⟨m, hm7⟩ : ∃ m, n + 4 * (8 - done.length) = n + 4 * (8 - (done ++ [y]).length) + 4 ∧ m = 0 := ⟨0, by simp; omega, rfl⟩
    rw [hm7.1] at hd
    generalize hq7 : n + 4 * (8 - (done ++ [y]).length) = q at *
    obtain ⟨x, d2, e2, g2, hx⟩ := s_amount (n := q + 2) hd
    obtain ⟨g, d3, e3, g3, hg3⟩ := s_oneT (n := q + 1) (xs := gs) g2 h0 (by omega)
    obtain ⟨t, d4, e4, g4, t0, t1⟩ := s_pick (n := q) g3 (k := 12) (by decide) (by decide)
    obtain ⟨z, hz, hzm⟩ := hg g hg3
    have hk : IsKey (gs.map nmD) (.tuple [.str z, .int t]) := .mk hzm t0 t1
    obtain ⟨p1, p2, p3⟩ := kput_keys (v := x) hk fun q hq => (hs q hq).1
    have kl : kvs.length < 1000000 := by omega
    refine ⟨_, ⟨[some (.cel 0), some (.dat (.tuple gs)), some (.cel 1), none, none], [.lst d4.l, .dct true (kput kvs (.tuple [.str z, .int t]) x)], 1⟩, rfl, .inl ?_, d4, _, none, rfl, g4, fun q hq => ?_, p1 nd, by simp; omega⟩
    · simp [b__law_store_l1, e2, e3, hz, e4, hk.kOk, kl]
    · rcases p2 q hq with ⟨z1, z2⟩ | z1
      · rw [z1, z2]; exact ⟨hk, hx⟩
      · exact hs q z1
theorem s_store {n : Nat} {d : Dk} {gs : List PyData} (h : d.ok (n + 33)) (hg : ∀ g ∈ gs, IsGd g) (h0 : 0 < gs.length) (h1 : gs.length ≤ 6) : ∃ ls d', m__law_store [.cel 0, .dat (.tuple gs)] [.lst d.l] = .ok (.dat (.tuple ls)) [.lst (Dk.l d')] ∧ d'.ok n ∧ (∀ l ∈ ls, IsLot (gs.map nmD) l) ∧ Rise ls ∧ ls.length ≤ 8 := by
  obtain ⟨ls, d', h1, h2, h3, h4, h5, _⟩ := s_store2 h (fun g hm => gd_nm (hg g hm) hm) h0 h1
  exact ⟨ls, d', h1, h2, h3, h4, h5⟩
end G
/-! MC: goods looked up, days, likeness. -/
namespace G
open PySem PySem.Spec PyProof.Rows L2
def b_good_of_l1 : Fr → SRes :=
  sIf (xB (xOp2 dEq (xIx (xVar 2) (xC (.int 0))) (xVar 1))) (sRet (xVar 2)) (sNx)
def b_good_of : Fr → SRes :=
  sSeq (sFor (xItems (xVar 0)) (tName 2) (b_good_of_l1))
  (sKill [2] (sRet (xC .none)))
def m_good_of : AFun := mkFun 3 2 b_good_of

def b_is_over : Fr → SRes :=
  sRet (xOp2 dGt (xVar 2) (xOp2 dAdd (xIx (xVar 1) (xC (.int 1))) (xIx (xCall m_good_of (xCons (xVar 0) (xCons (xIx (xVar 1) (xC (.int 0))) (xNil)))) (xC (.int 3)))))
def m_is_over : AFun := mkFun 3 3 b_is_over

def b_over_t1 : Fr → Res Bool :=
  xB (xCall m_is_over (xCons (xVar 0) (xCons (xVar 3) (xCons (xVar 2) (xNil)))))
def b_over_e1 : Fr → Res AV :=
  xVar 3
def b_over : Fr → SRes :=
  sRet (xComp [3] (xItems (xVar 1)) (tName 3) (b_over_t1) (b_over_e1))
def m_over : AFun := mkFun 4 3 b_over

def b_kept_t1 : Fr → Res Bool :=
  xNot (xB (xCall m_is_over (xCons (xVar 0) (xCons (xVar 3) (xCons (xVar 2) (xNil))))))
def b_kept_e1 : Fr → Res AV :=
  xVar 3
def b_kept : Fr → SRes :=
  sRet (xB1 dTuple (xCons (xComp [3] (xItems (xVar 1)) (tName 3) (b_kept_t1) (b_kept_e1)) (xNil)))
def m_kept : AFun := mkFun 4 3 b_kept

def b__law_sort : Fr → SRes :=
  sSeq (sIf (xB (xIsi (isi "bool") (xVar 0))) (sRet (xC (.str "truth"))) (sNx))
  (sSeq (sIf (xB (xIsi (isi "int") (xVar 0))) (sRet (xC (.str "number"))) (sNx))
  (sSeq (sIf (xB (xIsi (isi "tuple") (xVar 0))) (sRet (xC (.str "tuple"))) (sNx))
  (sRet (xIf (xB (xIsi (isi "list") (xVar 0))) (xC (.str "list")) (xC (.str "other"))))))
def m__law_sort : AFun := mkFun 1 1 b__law_sort

def b__law_same_t1 (self : AFun) : Fr → Res Bool :=
  xNot (xB (xCall self (xCons (xVar 3) (xCons (xIx (xVar 1) (xVar 2)) (xNil)))))
def b__law_same_e1 (self : AFun) : Fr → Res AV :=
  xVar 2
def b__law_same (self : AFun) : Fr → SRes :=
  sSeq (sIf (xB (xOp2 dNe (xCall m__law_sort (xCons (xVar 0) (xNil))) (xCall m__law_sort (xCons (xVar 1) (xNil))))) (sRet (xC (.bool false))) (sNx))
  (sSeq (sIf (xNot (xB (xIsi (fun y => isi "tuple" y || isi "list" y) (xVar 0)))) (sRet (xOp2 dEq (xVar 0) (xVar 1))) (sNx))
  (sSeq (sIf (xB (xOp2 dNe (xB1 dLen (xCons (xVar 0) (xNil))) (xB1 dLen (xCons (xVar 1) (xNil))))) (sRet (xC (.bool false))) (sNx))
  (sRet (xOp2 dEq (xComp [2, 3] (xEnum (xVar 0)) (tNames [2, 3]) (b__law_same_t1 self) (b__law_same_e1 self)) (xLst (xNil))))))
def m__law_same : Nat → AFun
  | 0 => fun _ _ => .err
  | n + 1 => mkFun 4 2 (b__law_same (m__law_same n))

def b__law_days_t1 : Fr → Res Bool :=
  xB (xOp2 dEq (xIx (xVar 2) (xC (.int 0))) (xVar 1))
def b__law_days_e1 : Fr → Res AV :=
  xIx (xVar 2) (xC (.int 3))
def b__law_days : Fr → SRes :=
  sRet (xIx (xComp [2] (xItems (xVar 0)) (tName 2) (b__law_days_t1) (b__law_days_e1)) (xC (.int 0)))
def m__law_days : AFun := mkFun 3 2 b__law_days

def b__law_is_over : Fr → SRes :=
  sRet (xOp2 dGt (xVar 2) (xOp2 dAdd (xIx (xVar 1) (xC (.int 1))) (xCall m__law_days (xCons (xVar 0) (xCons (xIx (xVar 1) (xC (.int 0))) (xNil))))))
def m__law_is_over : AFun := mkFun 3 3 b__law_is_over


theorem eqOk_str (a : Str) (y : PyData) : eqOk (.str a) y = true := by unfold eqOk; exact decide_eq_true (by simp [PyData.depth])
theorem eqOk_int (a : Int) (y : PyData) : eqOk (.int a) y = true := by unfold eqOk; exact decide_eq_true (by simp [PyData.depth])
theorem eqOk_r {x y : PyData} (h : y.depth ≤ 64) : eqOk x y = true := by unfold eqOk; exact decide_eq_true (by omega)
theorem eqOk_l {x y : PyData} (h : x.depth ≤ 64) : eqOk x y = true := by unfold eqOk; exact decide_eq_true (by omega)
/-! ### a good by its name -/
def gfind (gs : List PyData) (z : Str) : Option PyData := gs.find? fun g => PyData.eqv (nmD g) (.str z)
theorem gd_ix {g : PyData} (h : IsGd g) : dIx g (.int 0) = some (nmD g) := by cases h; simp [dIx, atI, ixN, nmD]
def dayOf : PyData → Int
  | .tuple [_, _, _, .int c, _] => c
  | _ => 0
theorem gd_ix3 {g : PyData} (h : IsGd g) : dIx g (.int 3) = some (.int (dayOf g)) := by cases h; simp [dIx, atI, ixN, dayOf]
theorem good_loop (T : AV) (z : Str) : ∀ (gs : List PyData) (v : Option AV), (∀ g ∈ gs, IsGd g) → ∀ g, gfind gs z = some g → ∃ fr', forA (tName 2) b_good_of_l1 gs ⟨[some T, some (.dat (.str z)), v], [], 0⟩ = .ret (.dat g) fr' ∧ fr'.cells = []
  | [], v, _, g, e => by cases e
  | x :: gs, v, h, g, e => by
    have hx := gd_ix (h x (List.mem_cons_self ..))
    have eo : eqOk (nmD x) (.str z) = true := eqOk_r (by simp [PyData.depth])
    unfold gfind at e
    rw [List.find?_cons] at e
    unfold forA
    cases q : PyData.eqv (nmD x) (.str z) with
    | true =>
      rw [q] at e
      cases e
      simp [b_good_of_l1, hx, dEq, eo, q]
    | false =>
      rw [q] at e
      obtain ⟨fr', h1, h2⟩ := good_loop T z gs (some (.dat x)) (fun g hg => h g (List.mem_cons_of_mem _ hg)) g e
      refine ⟨fr', ?_, h2⟩
      have hb : b_good_of_l1 ⟨[some T, some (.dat (.str z)), some (.dat x)], [], 0⟩ = .nx ⟨[some T, some (.dat (.str z)), some (.dat x)], [], 0⟩ := by simp [b_good_of_l1, hx, dEq, eo, q]
      simp [hb, h1]
theorem s_good_of {gs : List PyData} {z : Str} {g : PyData} (h : ∀ g ∈ gs, IsGd g) (e : gfind gs z = some g) : m_good_of [.dat (.tuple gs), .dat (.str z)] [] = .ok (.dat g) [] := by
  obtain ⟨fr', h1, h2⟩ := good_loop (.dat (.tuple gs)) z gs none h g e
  unfold m_good_of b_good_of
  simp [h1, h2]
theorem find_filter {α : Type} (p : α → Bool) : ∀ (l : List α) (x : α), l.find? p = some x → ∃ r, l.filter p = x :: r
  | [], x, e => by cases e
  | a :: l, x, e => by
    rw [List.find?_cons] at e
    cases q : p a with
    | true => rw [q] at e; cases e; exact ⟨l.filter p, by rw [List.filter_cons_of_pos q]⟩
    | false =>
      rw [q] at e
      obtain ⟨r, h⟩ := find_filter p l x e
      exact ⟨r, by rw [List.filter_cons_of_neg (by rw [q]; decide)]; exact h⟩
theorem s_days {gs : List PyData} {z : Str} {g : PyData} (h : ∀ g ∈ gs, IsGd g) (hl : gs.length ≤ 1000000) (e : gfind gs z = some g) : m__law_days [.dat (.tuple gs), .dat (.str z)] [] = .ok (.dat (.int (dayOf g))) [] := by
  have ec := compA_pure (own := [2]) (g := tName 2) (t := b__law_days_t1) (f := b__law_days_e1) (vars := [some (.dat (.tuple gs)), some (.dat (.str z)), none]) (bs := 0) (cs := []) (fun g => PyData.eqv (nmD g) (.str z)) (fun g => .int (dayOf g)) gs [] fun y hy => by
    have hx := gd_ix (h y hy)
    have eo : eqOk (nmD y) (.str z) = true := eqOk_r (by simp [PyData.depth])
    refine ⟨_, ⟨[some (.dat (.tuple gs)), some (.dat (.str z)), some (.dat y)], [], 0⟩, rfl, ?_, rfl, fun _ => ⟨⟨[some (.dat (.tuple gs)), some (.dat (.str z)), some (.dat y)], [], 0⟩, ?_, rfl⟩⟩
    · simp [b__law_days_t1, hx, dEq, eo]
    · simp [b__law_days_e1, gd_ix3 (h y hy)]
  obtain ⟨r, hr⟩ := find_filter _ gs g e
  rw [hr, List.nil_append] at ec
  unfold m__law_days b__law_days
  simp [xComp, ec, hl, dIx, atI, ixN]
/-! ### lots that are over -/
/-- of a lot: its good is there -/
def overB (gs : List PyData) (day : Int) : PyData → Bool
  | .tuple [.str z, .int t, _] => (match gfind gs z with
    | some g => decide (t + dayOf g < day)
    | none => false)
  | _ => false
theorem gfind_some {gs : List PyData} {z : Str} (h : PyData.str z ∈ gs.map nmD) : ∃ g, gfind gs z = some g := by
  obtain ⟨g, hg, e⟩ := List.mem_map.mp h
  cases q : gfind gs z with
  | some g => exact ⟨g, rfl⟩
  | none =>
    have := List.find?_eq_none.mp q g hg
    rw [e] at this
    exact absurd (show PyData.eqv (.str z) (.str z) = true by simp [PyData.eqv]) this
theorem s_is_over {gs : List PyData} {l : PyData} {day : Int} (h : ∀ g ∈ gs, IsGd g) (hl : IsLot (gs.map nmD) l) : m_is_over [.dat (.tuple gs), .dat l, .dat (.int day)] [] = .ok (.dat (.bool (overB gs day l))) [] := by
  cases hl with
  | @mk z t x h1 h2 h3 h4 =>
    obtain ⟨g, hg⟩ := gfind_some h1
    have e := s_good_of h hg
    have hi := gd_ix3 (h g (List.mem_of_find?_eq_some hg))
    unfold m_is_over b_is_over
    simp [dIx, atI, ixN] at hi ⊢
    simp [e, hi, dAdd, dGt, overB, hg]
theorem s_lis_over {gs : List PyData} {l : PyData} {day : Int} (h : ∀ g ∈ gs, IsGd g) (hz : gs.length ≤ 1000000) (hl : IsLot (gs.map nmD) l) : m__law_is_over [.dat (.tuple gs), .dat l, .dat (.int day)] [] = .ok (.dat (.bool (overB gs day l))) [] := by
  cases hl with
  | @mk z t x h1 h2 h3 h4 =>
    obtain ⟨g, hg⟩ := gfind_some h1
    have e := s_days h hz hg
    unfold m__law_is_over b__law_is_over
    simp [dIx, atI, ixN, e, dAdd, dGt, overB, hg]
theorem s_over {gs ls : List PyData} {day : Int} (h : ∀ g ∈ gs, IsGd g) (hl : ∀ l ∈ ls, IsLot (gs.map nmD) l) (hz : ls.length ≤ 1000000) : m_over [.dat (.tuple gs), .dat (.tuple ls), .dat (.int day)] [] = .ok (.dat (.list (ls.filter (overB gs day)))) [] := by
  have ec := compA_pure (own := [3]) (g := tName 3) (t := b_over_t1) (f := b_over_e1) (vars := [some (.dat (.tuple gs)), some (.dat (.tuple ls)), some (.dat (.int day)), none]) (bs := 0) (cs := []) (overB gs day) id ls [] fun y hy => by
    refine ⟨_, ⟨[some (.dat (.tuple gs)), some (.dat (.tuple ls)), some (.dat (.int day)), some (.dat y)], [], 0⟩, rfl, ?_, rfl, fun _ => ⟨⟨[some (.dat (.tuple gs)), some (.dat (.tuple ls)), some (.dat (.int day)), some (.dat y)], [], 0⟩, ?_, rfl⟩⟩
    · simp [b_over_t1, s_is_over h (hl y hy)]
    · simp [b_over_e1]
  rw [List.map_id, List.nil_append] at ec
  unfold m_over b_over
  simp [xComp, ec, hz]
theorem s_kept {gs ls : List PyData} {day : Int} (h : ∀ g ∈ gs, IsGd g) (hl : ∀ l ∈ ls, IsLot (gs.map nmD) l) (hz : ls.length ≤ 1000000) : m_kept [.dat (.tuple gs), .dat (.tuple ls), .dat (.int day)] [] = .ok (.dat (.tuple (ls.filter fun l => !overB gs day l))) [] := by
  have ec := compA_pure (own := [3]) (g := tName 3) (t := b_kept_t1) (f := b_kept_e1) (vars := [some (.dat (.tuple gs)), some (.dat (.tuple ls)), some (.dat (.int day)), none]) (bs := 0) (cs := []) (fun l => !overB gs day l) id ls [] fun y hy => by
    refine ⟨_, ⟨[some (.dat (.tuple gs)), some (.dat (.tuple ls)), some (.dat (.int day)), some (.dat y)], [], 0⟩, rfl, ?_, rfl, fun _ => ⟨⟨[some (.dat (.tuple gs)), some (.dat (.tuple ls)), some (.dat (.int day)), some (.dat y)], [], 0⟩, ?_, rfl⟩⟩
    · simp [b_kept_t1, s_is_over h (hl y hy)]
    · simp [b_kept_e1]
  rw [List.map_id, List.nil_append] at ec
  unfold m_kept b_kept
  simp [xComp, ec, hz]
/-! ### likeness -/
inductive Pl : Nat → PyData → Prop
  | non {n : Nat} : Pl n .none
  | bool {n : Nat} {i : Bool} : Pl n (.bool i)
  | int {n : Nat} {i : Int} : Pl n (.int i)
  | str {n : Nat} {i : Str} : Pl n (.str i)
  | tup {n : Nat} {xs : List PyData} : xs.length ≤ 1000000 → (∀ x ∈ xs, Pl n x) → Pl (n + 1) (.tuple xs)
  | lst {n : Nat} {xs : List PyData} : xs.length ≤ 1000000 → (∀ x ∈ xs, Pl n x) → Pl (n + 1) (.list xs)
def srtN : PyData → Str
  | .bool _ => "truth"
  | .int _ => "number"
  | .tuple _ => "tuple"
  | .list _ => "list"
  | _ => "other"
theorem s_sort (x : PyData) : m__law_sort [.dat x] [] = .ok (.dat (.str (srtN x))) [] := by
  unfold m__law_sort b__law_sort
  cases x <;> simp [isi, isiN, tyN, srtN]
theorem eqv_self : ∀ {n : Nat} {x : PyData}, Pl n x → PyData.eqv x x = true := by
  intro n
  induction n with
  | zero => intro x h; cases h <;> simp [PyData.eqv]
  | succ n ih =>
    intro x h
    have all : ∀ xs : List PyData, (∀ x ∈ xs, Pl n x) → PyData.eqvAll xs xs = true := by
      intro xs
      induction xs with
      | nil => intro _; rfl
      | cons a xs ih2 =>
        intro h
        simp only [PyData.eqvAll, Bool.and_eq_true]
        exact ⟨ih (h a (List.mem_cons_self ..)), ih2 fun x hx => h x (List.mem_cons_of_mem _ hx)⟩
    cases h with
    | tup h1 h2 => simpa [PyData.eqv] using all _ h2
    | lst h1 h2 => simpa [PyData.eqv] using all _ h2
    | _ => simp [PyData.eqv]
theorem depth_Pl : ∀ {n : Nat} {x : PyData}, Pl n x → x.depth ≤ n := by
  intro n
  induction n with
  | zero => intro x h; cases h <;> simp [PyData.depth]
  | succ n ih =>
    intro x h
    have all : ∀ xs : List PyData, (∀ x ∈ xs, Pl n x) → PyData.depthAll xs ≤ n := by
      intro xs
      induction xs with
      | nil => intro _; simp [PyData.depthAll]
      | cons a xs ih2 =>
        intro h
        simp only [PyData.depthAll]
        exact Nat.max_le.mpr ⟨ih (h a (List.mem_cons_self ..)), ih2 fun x hx => h x (List.mem_cons_of_mem _ hx)⟩
    cases h with
    | tup h1 h2 => have := all _ h2; simp [PyData.depth]; omega
    | lst h1 h2 => have := all _ h2; simp [PyData.depth]; omega
    | _ => simp [PyData.depth]
theorem same_seq {m : AFun} {xs : List PyData} (X : PyData) (hX : X = .list xs ∨ X = .tuple xs) (hl : xs.length ≤ 1000000) (h : ∀ x ∈ xs, m [.dat x, .dat x] [] = .ok (.dat (.bool true)) []) : mkFun 4 2 (b__law_same m) [.dat X, .dat X] [] = .ok (.dat (.bool true)) [] := by
  have ec := compA_pure (own := [2, 3]) (g := tNames [2, 3]) (t := b__law_same_t1 m) (f := b__law_same_e1 m) (vars := [some (.dat X), some (.dat X), none, none]) (bs := 0) (cs := []) (fun _ => false) id (enumD xs) [] fun y hy => by
    obtain ⟨i, hi⟩ := mem_at hy
    obtain ⟨x, h1, rfl⟩ := enumD_at hi
    have hx := h x (List.mem_of_getElem? h1)
    have hlt := lt_of_at h1
    have hix : dIx X (.int (i : Nat)) = some x := by
      have : atI xs (i : Nat) = some x := by
        unfold atI ixN
        simp [hlt]
        exact (List.getElem?_eq_some_iff.mp h1).2
      rcases hX with rfl | rfl <;> exact this
    refine ⟨_, ⟨[some (.dat X), some (.dat X), some (.dat (.int (i : Nat))), some (.dat x)], [], 0⟩, rfl, ?_, rfl, fun z => by cases z⟩
    simp [b__law_same_t1, hix, hx]
  have hl2 : (enumD xs).length ≤ 1000000 := by rw [enumD_len]; exact hl
  have ef : ((enumD xs).filter fun _ => false) = [] := by simp
  rw [ef] at ec
  have e0 : eqOk (.list []) (.list []) = true := eqOk_l (by simp [PyData.depth, PyData.depthAll])
  unfold b__law_same
  rcases hX with rfl | rfl
  · simp [s_sort, srtN, dNe, eqOk_str, isi, isiN, tyN, PyData.eqv, eqOk_int, xComp, ec, hl2, dEq, e0, PyData.eqvAll]
  · simp [s_sort, srtN, dNe, eqOk_str, isi, isiN, tyN, PyData.eqv, eqOk_int, xComp, ec, hl2, dEq, e0, PyData.eqvAll]
theorem s_same : ∀ {n m : Nat} {x : PyData}, Pl n x → n < m → m__law_same m [.dat x, .dat x] [] = .ok (.dat (.bool true)) [] := by
  intro n
  have low : ∀ (m : Nat) (x : PyData), PyData.eqv x x = true → x.depth = 0 → (isi "tuple" x || isi "list" x) = false → m__law_same (m + 1) [.dat x, .dat x] [] = .ok (.dat (.bool true)) [] := fun m x h1 h2 h3 => by
    have e0 : eqOk x x = true := eqOk_l (by omega)
    have h3' : (isi "tuple" x) = false ∧ (isi "list" x) = false := by simpa using h3
    show mkFun 4 2 (b__law_same (m__law_same m)) _ _ = _
    unfold b__law_same
    simp [s_sort, dNe, eqOk_str, PyData.eqv, h3', dEq, e0, h1]
  induction n with
  | zero =>
    intro m x h hm
    obtain ⟨k, rfl⟩ : ∃ k, m = k + 1 := ⟨m - 1, by omega⟩
    have e := eqv_self h
    cases h <;> exact low k _ e (by simp [PyData.depth]) (by simp [isi, isiN, tyN])
  | succ n ih =>
    intro m x h hm
    obtain ⟨k, rfl⟩ : ∃ k, m = k + 1 := ⟨m - 1, by omega⟩
    have e := eqv_self h
    cases h with
    | tup h1 h2 => exact same_seq _ (.inr rfl) h1 fun x hx => ih (h2 x hx) (by omega)
    | lst h1 h2 => exact same_seq _ (.inl rfl) h1 fun x hx => ih (h2 x hx) (by omega)
    | _ => exact low k _ e (by simp [PyData.depth]) (by simp [isi, isiN, tyN])
end G
namespace G
section
variable {S : Type} [DecidableEq S]
structure Lt (S : Type) where
  nm : S
  t : Int
  q : Rat
def upf (w : S → Rat) (n : S) (v : Rat) : S → Rat := fun m => if m = n then v else w m
/-- so much of a name -/
def sumOf (ls : List (Lt S)) (n : S) : Rat := ((ls.filter fun l => l.nm = n).map (·.q)).sum
theorem sumOf_nil (n : S) : sumOf ([] : List (Lt S)) n = 0 := rfl
theorem sumOf_cons (l : Lt S) (ls : List (Lt S)) (n : S) : sumOf (l :: ls) n = (if l.nm = n then l.q else 0) + sumOf ls n := by
  unfold sumOf
  by_cases h : l.nm = n
  · rw [if_pos h, List.filter_cons_of_pos (by simpa using h), List.map_cons, List.sum_cons]
  · rw [if_neg h, List.filter_cons_of_neg (by simpa using h)]; grind
theorem sumOf_append (ls ms : List (Lt S)) (n : S) : sumOf (ls ++ ms) n = sumOf ls n + sumOf ms n := by
  induction ls with
  | nil => rw [List.nil_append, sumOf_nil]; grind
  | cons l ls ih => rw [List.cons_append, sumOf_cons, sumOf_cons, ih]; grind
def wantT (ov : Lt S → Bool) (w : S → Rat) (l : Lt S) : Rat := if ov l then 0 else w l.nm
def partT (ov : Lt S → Bool) (w : S → Rat) (l : Lt S) : Rat := if l.q < wantT ov w l then l.q else wantT ov w l
def nextW (ov : Lt S → Bool) (w : S → Rat) (l : Lt S) : S → Rat := if 0 < partT ov w l then upf w l.nm (wantT ov w l - partT ov w l) else w
def rowT (ov : Lt S → Bool) (w : S → Rat) (l : Lt S) : List (Lt S) := if 0 < partT ov w l then [⟨l.nm, l.t, partT ov w l⟩] else []
def restT (ov : Lt S → Bool) (w : S → Rat) (l : Lt S) : List (Lt S) := if partT ov w l ≠ l.q then [⟨l.nm, l.t, l.q - partT ov w l⟩] else []
def takeR (ov : Lt S → Bool) : List (Lt S) → (S → Rat) → List (Lt S)
  | [], _ => []
  | l :: ls, w => rowT ov w l ++ takeR ov ls (nextW ov w l)
def takeL (ov : Lt S → Bool) : List (Lt S) → (S → Rat) → List (Lt S)
  | [], _ => []
  | l :: ls, w => restT ov w l ++ takeL ov ls (nextW ov w l)
variable {ov : Lt S → Bool} {w : S → Rat} {l : Lt S} {ls : List (Lt S)}
theorem part_spec (hw : ∀ n, 0 ≤ w n) (hq : 0 < l.q) : 0 ≤ partT ov w l ∧ partT ov w l ≤ l.q ∧ partT ov w l ≤ wantT ov w l ∧ (partT ov w l = l.q ∨ partT ov w l = wantT ov w l) := by
  have : 0 ≤ wantT ov w l := by unfold wantT; split; exact Rat.le_refl; exact hw _
  unfold partT
  split <;> grind
theorem nextW_nn (hw : ∀ n, 0 ≤ w n) (hq : 0 < l.q) : ∀ n, 0 ≤ nextW ov w l n := by
  intro n
  have := part_spec (ov := ov) hw hq
  unfold nextW
  split
  · show 0 ≤ if n = l.nm then _ else _
    split
    · grind
    · exact hw n
  · exact hw n
theorem nextW_eq (hw : ∀ n, 0 ≤ w n) (hq : 0 < l.q) (n : S) : nextW ov w l n = w n - (if l.nm = n then partT ov w l else 0) := by
  have h := part_spec (ov := ov) hw hq
  unfold nextW
  by_cases hp : 0 < partT ov w l
  · rw [if_pos hp]
    have ho : ov l = false := by
      cases q : ov l with
      | false => rfl
      | true => unfold wantT at h; rw [q] at h; simp at h; grind
    unfold upf wantT
    rw [ho]
    by_cases e : n = l.nm
    · subst e; simp
    · rw [if_neg e, if_neg (Ne.symm e)]; grind
  · rw [if_neg hp]
    have : partT ov w l = 0 := by grind
    rw [this]; split <;> grind
theorem takeR_zero (hw : ∀ n, 0 ≤ w n) (hq : ∀ l ∈ ls, 0 < l.q) {n : S} (h0 : w n = 0) : ∀ r ∈ takeR ov ls w, r.nm ≠ n := by
  induction ls generalizing w with
  | nil => intro r hr; cases hr
  | cons l ls ih =>
    intro r hr
    have hl := hq l (List.mem_cons_self ..)
    rcases List.mem_append.mp hr with hr | hr
    · unfold rowT at hr
      split at hr
      · rename_i hp
        have := part_spec (ov := ov) hw hl
        cases List.mem_singleton.mp hr
        intro e
        have e : l.nm = n := e
        have : wantT ov w l = 0 := by unfold wantT; split; rfl; rw [e]; exact h0
        grind
      · cases hr
    · refine ih (nextW_nn hw hl) (fun l h => hq l (List.mem_cons_of_mem _ h)) ?_ r hr
      have := nextW_nn (ov := ov) hw hl n
      rw [nextW_eq hw hl, h0] at this ⊢
      have h := part_spec (ov := ov) hw hl
      split
      · rename_i e; rw [if_pos e] at this; grind
      · grind
theorem take_sum (hw : ∀ n, 0 ≤ w n) (hq : ∀ l ∈ ls, 0 < l.q) (n : S) : sumOf (takeR ov ls w) n + sumOf (takeL ov ls w) n = sumOf ls n := by
  induction ls generalizing w with
  | nil => unfold takeR takeL; rw [sumOf_nil]; grind
  | cons l ls ih =>
    have hl := hq l (List.mem_cons_self ..)
    have ih := ih (nextW_nn (ov := ov) hw hl) fun l h => hq l (List.mem_cons_of_mem _ h)
    have h := part_spec (ov := ov) hw hl
    unfold takeR takeL
    rw [sumOf_append, sumOf_append, sumOf_cons]
    have : sumOf (rowT ov w l) n + sumOf (restT ov w l) n = if l.nm = n then l.q else 0 := by
      unfold rowT restT
      by_cases e : l.nm = n
      · rw [if_pos e]
        split <;> split <;> simp only [sumOf_cons, sumOf_nil, e, if_true] <;> grind
      · rw [if_neg e]
        split <;> split <;> simp only [sumOf_cons, sumOf_nil, e, if_false] <;> grind
    grind
/-- what is there -/
def avail (ov : Lt S → Bool) (ls : List (Lt S)) (n : S) : Rat := sumOf (ls.filter fun l => !ov l) n
theorem avail_nn (hq : ∀ l ∈ ls, 0 < l.q) (n : S) : 0 ≤ avail ov ls n := by
  unfold avail
  induction ls with
  | nil => exact Rat.le_refl
  | cons l ls ih =>
    have ih := ih fun l h => hq l (List.mem_cons_of_mem _ h)
    have := hq l (List.mem_cons_self ..)
    rw [List.filter_cons]
    split
    · rw [sumOf_cons]; split <;> grind
    · exact ih
theorem take_want (hw : ∀ n, 0 ≤ w n) (hq : ∀ l ∈ ls, 0 < l.q) (n : S) (h : w n ≤ avail ov ls n) : sumOf (takeR ov ls w) n = w n := by
  induction ls generalizing w with
  | nil =>
    have := hw n
    unfold takeR; rw [sumOf_nil]; unfold avail at h; rw [List.filter_nil, sumOf_nil] at h; grind
  | cons l ls ih =>
    have hl := hq l (List.mem_cons_self ..)
    have hq' : ∀ l ∈ ls, 0 < l.q := fun l h => hq l (List.mem_cons_of_mem _ h)
    have hp := part_spec (ov := ov) hw hl
    have hn := nextW_eq (ov := ov) hw hl n
    have nn := nextW_nn (ov := ov) hw hl n
    have ra : sumOf (rowT ov w l) n = if l.nm = n then partT ov w l else 0 := by
      unfold rowT
      by_cases e : l.nm = n
      · rw [if_pos e]; split <;> simp only [sumOf_cons, sumOf_nil, e, if_true] <;> grind
      · rw [if_neg e]; split <;> simp only [sumOf_cons, sumOf_nil, e, if_false] <;> grind
    have av : avail ov (l :: ls) n = (if l.nm = n ∧ ov l = false then l.q else 0) + avail ov ls n := by
      unfold avail
      rw [List.filter_cons]
      cases o : ov l with
      | true => simp; grind
      | false => simp [sumOf_cons]
    have av0 := avail_nn (ov := ov) hq' n
    unfold takeR
    rw [sumOf_append, ra, ih (nextW_nn hw hl) hq' ?_, hn]
    · split <;> grind
    · rw [hn]
      rw [av] at h
      by_cases e : l.nm = n
      · rw [if_pos e]
        cases o : ov l with
        | true => simp [e, o] at h; grind
        | false =>
          simp [e, o] at h
          have : wantT ov w l = w n := by unfold wantT; rw [o, e]; simp
          grind
      · simp [e] at h ⊢
        grind
theorem row_mem (hw : ∀ n, 0 ≤ w n) (hq : ∀ l ∈ ls, 0 < l.q) : ∀ r ∈ takeR ov ls w, ∃ l ∈ ls, ov l = false ∧ r.nm = l.nm ∧ r.t = l.t ∧ 0 < r.q ∧ r.q ≤ l.q := by
  induction ls generalizing w with
  | nil => intro r hr; cases hr
  | cons l ls ih =>
    intro r hr
    have hl := hq l (List.mem_cons_self ..)
    rcases List.mem_append.mp hr with hr | hr
    · have h := part_spec (ov := ov) hw hl
      unfold rowT at hr
      split at hr
      · rename_i hp
        cases List.mem_singleton.mp hr
        refine ⟨l, List.mem_cons_self .., ?_, rfl, rfl, hp, h.2.1⟩
        cases q : ov l with
        | false => rfl
        | true => unfold wantT at h; rw [q] at h; simp at h; grind
      · cases hr
    · obtain ⟨m, h1, h2⟩ := ih (nextW_nn hw hl) (fun l h => hq l (List.mem_cons_of_mem _ h)) r hr
      exact ⟨m, List.mem_cons_of_mem _ h1, h2⟩
theorem rest_mem (hw : ∀ n, 0 ≤ w n) (hq : ∀ l ∈ ls, 0 < l.q) : ∀ r ∈ takeL ov ls w, ∃ l ∈ ls, r.nm = l.nm ∧ r.t = l.t ∧ 0 < r.q ∧ r.q ≤ l.q := by
  induction ls generalizing w with
  | nil => intro r hr; cases hr
  | cons l ls ih =>
    intro r hr
    have hl := hq l (List.mem_cons_self ..)
    rcases List.mem_append.mp hr with hr | hr
    · have h := part_spec (ov := ov) hw hl
      unfold restT at hr
      split at hr
      · rename_i hp
        cases List.mem_singleton.mp hr
        refine ⟨l, List.mem_cons_self .., rfl, rfl, ?_, ?_⟩
        · show 0 < l.q - partT ov w l; grind
        · show l.q - partT ov w l ≤ l.q; grind
      · cases hr
    · obtain ⟨m, h1, h2⟩ := ih (nextW_nn hw hl) (fun l h => hq l (List.mem_cons_of_mem _ h)) r hr
      exact ⟨m, List.mem_cons_of_mem _ h1, h2⟩
abbrev keyT (l : Lt S) : S × Int := (l.nm, l.t)
theorem row_sub : List.Sublist ((takeR ov ls w).map keyT) (ls.map keyT) := by
  induction ls generalizing w with
  | nil => exact .slnil
  | cons l ls ih =>
    unfold takeR rowT
    rw [List.map_append, List.map_cons]
    split
    · exact .cons_cons _ ih
    · exact .cons _ ih
theorem rest_sub : List.Sublist ((takeL ov ls w).map keyT) (ls.map keyT) := by
  induction ls generalizing w with
  | nil => exact .slnil
  | cons l ls ih =>
    unfold takeL restT
    rw [List.map_append, List.map_cons]
    split
    · exact .cons_cons _ ih
    · exact .cons _ ih
theorem rest_over (hk : ∀ l m : Lt S, keyT l = keyT m → ov l = ov m) (hq : ∀ l ∈ ls, 0 < l.q) : (takeL ov ls w).filter ov = ls.filter ov := by
  induction ls generalizing w with
  | nil => rfl
  | cons l ls ih =>
    have ih := ih (w := nextW ov w l) fun l h => hq l (List.mem_cons_of_mem _ h)
    have hl := hq l (List.mem_cons_self ..)
    unfold takeL
    rw [List.filter_append, ih]
    cases o : ov l with
    | true =>
      have e : partT ov w l = 0 := by unfold partT wantT; rw [o]; simp; grind
      unfold restT
      rw [e, if_pos (by grind), List.filter_cons_of_pos (by rw [← o]; exact hk _ _ rfl), List.filter_cons_of_pos o]
      have : (⟨l.nm, l.t, l.q - 0⟩ : Lt S) = l := by cases l; simp; grind
      rw [this]; rfl
    | false =>
      rw [List.filter_cons_of_neg (by rw [o]; decide)]
      have : (restT ov w l).filter ov = [] := by
        unfold restT
        split
        · rw [List.filter_cons_of_neg (by rw [hk ⟨l.nm, l.t, l.q - partT ov w l⟩ l rfl, o]; decide)]; rfl
        · rfl
      rw [this]; rfl
/-- elder ones first -/
theorem elder (hk : ∀ l m : Lt S, keyT l = keyT m → ov l = ov m) (hw : ∀ n, 0 ≤ w n) (hq : ∀ l ∈ ls, 0 < l.q) (hr : ls.Pairwise fun a b => a.nm = b.nm → a.t < b.t) :
    ∀ r ∈ takeR ov ls w, ∀ h ∈ takeL ov ls w, ov h = false → h.nm = r.nm → ¬ h.t < r.t := by
  induction ls generalizing w with
  | nil => intro r hr; cases hr
  | cons l ls ih =>
    have hl := hq l (List.mem_cons_self ..)
    have hq' : ∀ l ∈ ls, 0 < l.q := fun l h => hq l (List.mem_cons_of_mem _ h)
    have hp := part_spec (ov := ov) hw hl
    rw [List.pairwise_cons] at hr
    intro r h1 h h2 ho hn
    rcases List.mem_append.mp h1 with h1 | h1
    · rcases List.mem_append.mp h2 with h2 | h2
      · have e1 : r.t = l.t := by
          unfold rowT at h1; split at h1
          · cases List.mem_singleton.mp h1; rfl
          · cases h1
        have e2 : h.t = l.t := by
          unfold restT at h2; split at h2
          · cases List.mem_singleton.mp h2; rfl
          · cases h2
        omega
      · obtain ⟨m, m1, m2, m3, _⟩ := rest_mem (nextW_nn hw hl) hq' h h2
        have e1 : r.nm = l.nm ∧ r.t = l.t := by
          unfold rowT at h1; split at h1
          · cases List.mem_singleton.mp h1; exact ⟨rfl, rfl⟩
          · cases h1
        have := hr.1 m m1 (by rw [← m2, hn, e1.1])
        omega
    · rcases List.mem_append.mp h2 with h2 | h2
      · exfalso
        unfold restT at h2
        split at h2
        · rename_i hne
          cases List.mem_singleton.mp h2
          have ol : ov l = false := by rw [← ho]; exact hk _ _ rfl
          have hn : l.nm = r.nm := hn
          refine takeR_zero (n := l.nm) (nextW_nn hw hl) hq' ?_ r h1 hn.symm
          rw [nextW_eq hw hl, if_pos rfl]
          have : wantT ov w l = w l.nm := by unfold wantT; rw [ol]; simp
          grind
        · cases h2
      · exact ih (nextW_nn hw hl) hq' hr.2 r h1 h h2 ho hn
end
end G
/-! NA: loops over typed items; fractions. -/
namespace G
open PySem PySem.Spec PyProof.Rows L2

theorem forA_typed {α : Type} {g : Tg} {b : Fr → SRes} (enc : α → PyData) (P : List α → Fr → Prop) (xs : List α) (fr : Fr) (h0 : P [] fr)
    (st : ∀ done x rest fr, xs = done ++ x :: rest → P done fr → ∃ fr1 fr2, g (enc x) fr = some fr1 ∧ (b fr1 = .nx fr2 ∨ b fr1 = .ct fr2) ∧ P (done ++ [x]) fr2) : ∃ fr', forA g b (xs.map enc) fr = .nx fr' ∧ P xs fr' := by
  have go : ∀ (zs done : List α) (fr : Fr), xs = done ++ zs → P done fr → ∃ fr', forA g b (zs.map enc) fr = .nx fr' ∧ P xs fr' := by
    intro zs
    induction zs with
    | nil => intro done fr e h; exact ⟨fr, rfl, by rw [e, List.append_nil]; exact h⟩
    | cons y zs ih =>
      intro done fr e h
      obtain ⟨fr1, fr2, h1, h2, h3⟩ := st done y zs fr e h
      obtain ⟨fr', h4, h5⟩ := ih (done ++ [y]) fr2 (by rw [e]; simp) h3
      refine ⟨fr', ?_, h5⟩
      rw [List.map_cons]
      unfold forA
      rw [h1]
      rcases h2 with h2 | h2 <;> simp only [h2] <;> exact h4
  exact go xs [] fr rfl h0
/-- a loop that may hand out: at the first x with p -/
theorem forA_first {α : Type} {g : Tg} {b : Fr → SRes} (enc : α → PyData) (p : α → Bool) (R : α → AV → Fr → Prop) (P : Fr → Prop) : ∀ (xs : List α) (fr : Fr), P fr →
    (∀ x ∈ xs, ∀ fr, P fr → ∃ fr1, g (enc x) fr = some fr1 ∧ (p x = true → ∃ a fr2, b fr1 = .ret a fr2 ∧ R x a fr2) ∧ (p x = false → ∃ fr2, (b fr1 = .nx fr2 ∨ b fr1 = .ct fr2) ∧ P fr2)) →
    (∀ x, xs.find? p = some x → ∃ a fr', forA g b (xs.map enc) fr = .ret a fr' ∧ R x a fr') ∧ (xs.find? p = none → ∃ fr', forA g b (xs.map enc) fr = .nx fr' ∧ P fr')
  | [], fr, h, _ => ⟨(fun x e => nomatch e), fun _ => ⟨fr, rfl, h⟩⟩
  | x :: xs, fr, h, st => by
    obtain ⟨fr1, h1, h2, h3⟩ := st x (List.mem_cons_self ..) fr h
    cases q : p x with
    | true =>
      obtain ⟨a, fr2, h4, h5⟩ := h2 q
      rw [List.find?_cons, q]
      refine ⟨fun y e => ?_, fun e => nomatch e⟩
      cases e
      refine ⟨a, fr2, ?_, h5⟩
      rw [List.map_cons]
      unfold forA
      rw [h1]
      simp only [h4]
    | false =>
      obtain ⟨fr2, h4, h5⟩ := h3 q
      obtain ⟨i1, i2⟩ := forA_first enc p R P xs fr2 h5 fun y hy => st y (List.mem_cons_of_mem _ hy)
      rw [List.find?_cons, q]
      have e : forA g b ((x :: xs).map enc) fr = forA g b (xs.map enc) fr2 := by
        rw [List.map_cons]
        unfold forA
        rw [h1]
        rcases h4 with h4 | h4 <;> simp only [h4] <;> (cases xs <;> rfl)
      rw [e]
      exact ⟨i1, i2⟩
theorem compA_typed {α : Type} {own : List Nat} {g : Tg} {t : Fr → Res Bool} {f : Fr → Res AV} {vars : List (Option AV)} {bs : Nat} {cs : List Cell} (enc : α → PyData) (p : α → Bool) (h : α → PyData) (Gx : α → Fr) : ∀ (xs : List α) (acc : List PyData),
    (∀ x ∈ xs, g (enc x) ⟨kill own vars, cs, bs⟩ = some (Gx x)) → (∀ x, (Gx x).cells = cs) → (∀ x ∈ xs, t (Gx x) = .ok (p x) (Gx x)) → (∀ x ∈ xs, p x = true → f (Gx x) = .ok (.dat (h x)) (Gx x)) →
    compA own g t f vars bs (xs.map enc) acc cs = some (acc ++ (xs.filter p).map h, cs)
  | [], acc, _, _, _, _ => by simp [compA]
  | x :: xs, acc, hg, hc, ht, hf => by
    have ih := fun acc => compA_typed enc p h Gx xs acc (fun y hy => hg y (List.mem_cons_of_mem _ hy)) hc (fun y hy => ht y (List.mem_cons_of_mem _ hy)) fun y hy => hf y (List.mem_cons_of_mem _ hy)
    have m := List.mem_cons_self (a := x) (l := xs)
    rw [List.map_cons]
    unfold compA
    rw [hg x m]
    simp only [ht x m]
    cases q : p x with
    | false =>
      simp only [Bool.false_eq_true, if_false]
      rw [hc, ih, List.filter_cons_of_neg (by rw [q]; decide)]
    | true =>
      simp only [if_true, hf x m q]
      rw [hc, ih, List.filter_cons_of_pos q, List.map_cons, List.append_assoc]
      rfl
theorem xComp_typed {α : Type} {own : List Nat} {e : Fr → Res (List PyData)} {g : Tg} {t : Fr → Res Bool} {f : Fr → Res AV} {fr : Fr} (enc : α → PyData) (p : α → Bool) (h : α → PyData) (Gx : α → Fr) (xs : List α) (he : e fr = .ok (xs.map enc) fr) (hl : xs.length ≤ 1000000)
    (hg : ∀ x ∈ xs, g (enc x) ⟨kill own fr.vars, fr.cells, fr.base⟩ = some (Gx x)) (hc : ∀ x, (Gx x).cells = fr.cells) (ht : ∀ x ∈ xs, t (Gx x) = .ok (p x) (Gx x)) (hf : ∀ x ∈ xs, p x = true → f (Gx x) = .ok (.dat (h x)) (Gx x)) :
    xComp own e g t f fr = .ok (.dat (.list ((xs.filter p).map h))) fr := by
  unfold xComp
  rw [he]
  simp only [Res.bind, List.length_map, hl, if_true]
  rw [compA_typed enc p h Gx xs [] hg hc ht hf]
  rfl

/-! ### step by step -/
theorem seq_nx {f g : Fr → SRes} {fr fr1 : Fr} (h : f fr = .nx fr1) : sSeq f g fr = g fr1 := by
  show (f fr).then g = _
  rw [h]; rfl
theorem set_ok {i : Nat} {f : Fr → Res AV} {fr fr1 : Fr} {a : AV} (h : f fr = .ok a fr1) : sSet i f fr = .nx (fr1.setv i (some a)) := by
  show (f fr).toS _ = _
  rw [h]; rfl
theorem if_ok {t : Fr → Res Bool} {f g : Fr → SRes} {fr fr1 : Fr} {b : Bool} (h : t fr = .ok b fr1) : sIf t f g fr = if b = true then f fr1 else g fr1 := by
  show (t fr).toS _ = _
  rw [h]; rfl

/-! ### fractions -/
def b_divisor_t1 : Fr → Res Bool :=
  xB (xOp2 dNe (xVar 1) (xC (.int 0)))
def b_divisor_l1 : Fr → SRes :=
  sPar 0 1 (xCons (xVar 1) (xCons (xOp2 dMod (xVar 0) (xVar 1)) (xNil)))
def b_divisor : Fr → SRes :=
  sSeq (sPar 0 1 (xCons (xB1 dAbs (xCons (xVar 0) (xNil))) (xCons (xB1 dAbs (xCons (xVar 1) (xNil))) (xNil))))
  (sSeq (sWh (b_divisor_t1) (b_divisor_l1) (fun fr => natOf 1 fr + 2))
  (sKill [1] (sRet (xVar 0))))
def m_divisor : AFun := mkFun 2 2 b_divisor

def b_fraction : Fr → SRes :=
  sSeq (sSet 2 (xCall m_divisor (xCons (xVar 0) (xCons (xVar 1) (xNil)))))
  (sRet (xTup (xCons (xOp2 dFdiv (xVar 0) (xVar 2)) (xCons (xOp2 dFdiv (xVar 1) (xVar 2)) (xNil)))))
def m_fraction : AFun := mkFun 3 2 b_fraction

def b_plus : Fr → SRes :=
  sRet (xCall m_fraction (xCons (xOp2 dAdd (xOp2 dMul (xIx (xVar 0) (xC (.int 0))) (xIx (xVar 1) (xC (.int 1)))) (xOp2 dMul (xIx (xVar 1) (xC (.int 0))) (xIx (xVar 0) (xC (.int 1))))) (xCons (xOp2 dMul (xIx (xVar 0) (xC (.int 1))) (xIx (xVar 1) (xC (.int 1)))) (xNil))))
def m_plus : AFun := mkFun 2 2 b_plus

def b_minus : Fr → SRes :=
  sRet (xCall m_fraction (xCons (xOp2 dSub (xOp2 dMul (xIx (xVar 0) (xC (.int 0))) (xIx (xVar 1) (xC (.int 1)))) (xOp2 dMul (xIx (xVar 1) (xC (.int 0))) (xIx (xVar 0) (xC (.int 1))))) (xCons (xOp2 dMul (xIx (xVar 0) (xC (.int 1))) (xIx (xVar 1) (xC (.int 1)))) (xNil))))
def m_minus : AFun := mkFun 2 2 b_minus

def b_times : Fr → SRes :=
  sRet (xCall m_fraction (xCons (xOp2 dMul (xIx (xVar 0) (xC (.int 0))) (xIx (xVar 1) (xC (.int 0)))) (xCons (xOp2 dMul (xIx (xVar 0) (xC (.int 1))) (xIx (xVar 1) (xC (.int 1)))) (xNil))))
def m_times : AFun := mkFun 2 2 b_times

def b_is_less : Fr → SRes :=
  sRet (xOp2 dLt (xOp2 dMul (xIx (xVar 0) (xC (.int 0))) (xIx (xVar 1) (xC (.int 1)))) (xOp2 dMul (xIx (xVar 1) (xC (.int 0))) (xIx (xVar 0) (xC (.int 1)))))
def m_is_less : AFun := mkFun 2 2 b_is_less

def b__law_plus : Fr → SRes :=
  sRet (xCall m__law_frac (xCons (xOp2 dAdd (xOp2 dMul (xIx (xVar 0) (xC (.int 0))) (xIx (xVar 1) (xC (.int 1)))) (xOp2 dMul (xIx (xVar 1) (xC (.int 0))) (xIx (xVar 0) (xC (.int 1))))) (xCons (xOp2 dMul (xIx (xVar 0) (xC (.int 1))) (xIx (xVar 1) (xC (.int 1)))) (xNil))))
def m__law_plus : AFun := mkFun 2 2 b__law_plus

def eR (q : Rat) : PyData := .tuple [.int q.num, .int q.den]
/-- of a size that can be reckoned with -/
def Sm (q : Rat) : Prop := q.den < 2 ^ 1000 ∧ q.num.natAbs < 2 ^ 1000
theorem divisor_loop : ∀ (n x y : Nat) (cs : List Cell) (bs : Nat), y < n → whA b_divisor_t1 b_divisor_l1 n ⟨[some (.dat (.int x)), some (.dat (.int y))], cs, bs⟩ = .nx ⟨[some (.dat (.int (Nat.gcd x y : Nat))), some (.dat (.int 0))], cs, bs⟩
  | 0, _, _, _, _, h => by omega
  | n + 1, x, 0, cs, bs, h => by
    unfold whA
    simp [b_divisor_t1, dNe, eqOk_int, eqv_int]
  | n + 1, x, y + 1, cs, bs, h => by
    have hlt : x % (y + 1) < y + 1 := Nat.mod_lt _ (by omega)
    have ih := divisor_loop n (y + 1) (x % (y + 1)) cs bs (by omega)
    unfold whA
    have e1 : (0 : Int) < (y : Int) + 1 := by omega
    have e0 : ¬ ((y : Int) + 1 = 0) := by omega
    have e2 : ((x : Int) % ((y : Int) + 1)) = ((x % (y + 1) : Nat) : Int) := by simp
    have e3 : Nat.gcd x (y + 1) = Nat.gcd (y + 1) (x % (y + 1)) := by rw [Nat.gcd_comm x, Nat.gcd_rec, Nat.gcd_comm]
    rw [e3, ← ih]
    simp [b_divisor_t1, b_divisor_l1, dNe, eqOk_int, eqv_int, dMod, e1, e0]
theorem s_divisor (p q : Int) : m_divisor [.dat (.int p), .dat (.int q)] [] = .ok (.dat (.int (Nat.gcd p.natAbs q.natAbs : Nat))) [] := by
  have e := divisor_loop (q.natAbs + 2) p.natAbs q.natAbs [] 0 (by omega)
  unfold m_divisor b_divisor
  simp [abs_nat, natOf, e]
theorem s_fraction (p : Int) (q : Nat) (hq : 0 < q) (hq2 : q < 2 ^ 2000) : m_fraction [.dat (.int p), .dat (.int (q : Nat))] [] = .ok (.dat (eR (mkRat p q))) [] := by
  have g0 : 0 < Nat.gcd p.natAbs q := Nat.gcd_pos_of_pos_right _ hq
  have g1 : Nat.gcd p.natAbs q ≤ q := Nat.gcd_le_right _ hq
  have hd : divOk ((Nat.gcd p.natAbs q : Nat) : Int) = true := by
    unfold divOk
    refine decide_eq_true ⟨by omega, ?_⟩
    rw [Int.natAbs_natCast]
    have := (Nat.log2_lt (n := Nat.gcd p.natAbs q) (k := 2000) (by omega)).mpr (by omega)
    omega
  have e := s_divisor p q
  rw [Int.natAbs_natCast] at e
  unfold m_fraction b_fraction
  simp only [eR, Rat.num_mkRat, Rat.den_mkRat, if_neg (Nat.ne_of_gt hq)]
  rw [Nat.gcd_comm q]
  simp [e, dFdiv, hd]
theorem s_frac' (p : Int) (q : Nat) (hq : 0 < q) (hq2 : q < 2 ^ 2000) : m__law_frac [.dat (.int p), .dat (.int (q : Nat))] [] = .ok (.dat (eR (mkRat p q))) [] := by
  have g0 : 0 < Nat.gcd p.natAbs q := Nat.gcd_pos_of_pos_right _ hq
  have g1 : Nat.gcd p.natAbs q ≤ q := Nat.gcd_le_right _ hq
  have hd : divOk ((Nat.gcd p.natAbs q : Nat) : Int) = true := by
    unfold divOk
    refine decide_eq_true ⟨by omega, ?_⟩
    rw [Int.natAbs_natCast]
    have := (Nat.log2_lt (n := Nat.gcd p.natAbs q) (k := 2000) (by omega)).mpr (by omega)
    omega
  obtain ⟨r', e⟩ := frac_loop (.dat (.int p)) (.dat (.int (q : Nat))) (q + 2) p.natAbs q none [] 0 (by omega)
  unfold m__law_frac b__law_frac
  simp only [eR, Rat.num_mkRat, Rat.den_mkRat, if_neg (Nat.ne_of_gt hq)]
  rw [Nat.gcd_comm q]
  simp [abs_nat, natOf, e, dFdiv, hd]
theorem two_thousand {a b : Nat} (ha : a < 2 ^ 1000) (hb : b < 2 ^ 1000) : a * b < 2 ^ 2000 := by
  have : (2 : Nat) ^ 2000 = 2 ^ 1000 * 2 ^ 1000 := by rw [← Nat.pow_add]
  rw [this]
  exact Nat.mul_lt_mul'' ha hb
section
variable {a b : Rat}
theorem Sm.m1 (ha : Sm a) (hb : Sm b) : mulOk a.num b.den = true := mulOk_of ha.2 (by rw [Int.natAbs_natCast]; exact hb.1)
theorem Sm.m2 (ha : Sm a) (hb : Sm b) : mulOk a.den b.den = true := mulOk_of (by rw [Int.natAbs_natCast]; exact ha.1) (by rw [Int.natAbs_natCast]; exact hb.1)
theorem Sm.m3 (ha : Sm a) (hb : Sm b) : mulOk a.num b.num = true := mulOk_of ha.2 hb.2
theorem s_plus (ha : Sm a) (hb : Sm b) : m_plus [.dat (eR a), .dat (eR b)] [] = .ok (.dat (eR (a + b))) [] := by
  have e := s_fraction (a.num * b.den + b.num * a.den) (a.den * b.den) (Nat.mul_pos a.den_pos b.den_pos) (two_thousand ha.1 hb.1)
  rw [Int.natCast_mul, ← Rat.add_def'] at e
  unfold m_plus b_plus
  simp [eR, dIx, atI, ixN, dMul, ha.m1 hb, hb.m1 ha, ha.m2 hb, dAdd] at e ⊢
  simp [e]
theorem s_minus (ha : Sm a) (hb : Sm b) : m_minus [.dat (eR a), .dat (eR b)] [] = .ok (.dat (eR (a - b))) [] := by
  have e := s_fraction (a.num * b.den - b.num * a.den) (a.den * b.den) (Nat.mul_pos a.den_pos b.den_pos) (two_thousand ha.1 hb.1)
  rw [Int.natCast_mul, ← Rat.sub_def'] at e
  unfold m_minus b_minus
  simp [eR, dIx, atI, ixN, dMul, ha.m1 hb, hb.m1 ha, ha.m2 hb, dSub] at e ⊢
  simp [e]
theorem s_times (ha : Sm a) (hb : Sm b) : m_times [.dat (eR a), .dat (eR b)] [] = .ok (.dat (eR (a * b))) [] := by
  have e := s_fraction (a.num * b.num) (a.den * b.den) (Nat.mul_pos a.den_pos b.den_pos) (two_thousand ha.1 hb.1)
  rw [Int.natCast_mul, ← Rat.mul_def'] at e
  unfold m_times b_times
  simp [eR, dIx, atI, ixN, dMul, ha.m3 hb, ha.m2 hb] at e ⊢
  simp [e]
theorem s_lplus (ha : Sm a) (hb : Sm b) : m__law_plus [.dat (eR a), .dat (eR b)] [] = .ok (.dat (eR (a + b))) [] := by
  have e := s_frac' (a.num * b.den + b.num * a.den) (a.den * b.den) (Nat.mul_pos a.den_pos b.den_pos) (two_thousand ha.1 hb.1)
  rw [Int.natCast_mul, ← Rat.add_def'] at e
  unfold m__law_plus b__law_plus
  simp [eR, dIx, atI, ixN, dMul, ha.m1 hb, hb.m1 ha, ha.m2 hb, dAdd] at e ⊢
  simp [e]
theorem s_is_less (ha : Sm a) (hb : Sm b) : m_is_less [.dat (eR a), .dat (eR b)] [] = .ok (.dat (.bool (decide (a < b)))) [] := by
  unfold m_is_less b_is_less
  simp [eR, dIx, atI, ixN, dMul, ha.m1 hb, hb.m1 ha, dLt, Rat.lt_iff]
theorem eR_eqv : PyData.eqv (eR a) (eR b) = decide (a = b) := by
  show ((a.num == b.num) && (((a.den : Int) == (b.den : Int)) && true)) = _
  rw [Bool.and_true, Bool.beq_eq_decide_eq, Bool.beq_eq_decide_eq, ← Bool.decide_and, decide_eq_decide]
  exact ⟨fun h => Rat.ext h.1 (by omega), fun h => by subst h; exact ⟨rfl, rfl⟩⟩
theorem eR_depth : (eR a).depth = 1 := by simp [eR, PyData.depth, PyData.depthAll]
theorem eR_zero : eR 0 = .tuple [.int 0, .int 1] := rfl
theorem eR_pos : (0 < a.num) ↔ 0 < a := by
  rw [Rat.lt_iff]; simp
end
/-! ### bounds -/
theorem dv {q : Rat} {D : Nat} (hD : 0 < D) : q.den ∣ D ↔ ∃ k : Int, q = mkRat k D := by
  constructor
  · rintro ⟨c, rfl⟩
    have hc : c ≠ 0 := fun e => by subst e; simp at hD
    exact ⟨q.num * c, by rw [Rat.mkRat_mul_right hc, Rat.mkRat_self]⟩
  · rintro ⟨k, rfl⟩
    rw [Rat.den_mkRat, if_neg (by omega)]
    exact Nat.div_dvd_of_dvd (Nat.gcd_dvd_left _ _)
def FrB (D m : Nat) (q : Rat) : Prop := q.den ∣ D ∧ 0 ≤ q ∧ q ≤ (m : Rat)
theorem mk_add {D : Nat} (hD : 0 < D) (k l : Int) : mkRat k D + mkRat l D = mkRat (k + l) D := by
  rw [Rat.mkRat_add_mkRat _ _ (by omega) (by omega), ← Int.add_mul, Rat.mkRat_mul_right (by omega)]
theorem den_add_dvd {D : Nat} (hD : 0 < D) {a b : Rat} (ha : a.den ∣ D) (hb : b.den ∣ D) : (a + b).den ∣ D := by
  obtain ⟨k, rfl⟩ := (dv hD).mp ha
  obtain ⟨l, rfl⟩ := (dv hD).mp hb
  exact (dv hD).mpr ⟨k + l, mk_add hD k l⟩
theorem den_sub_dvd {D : Nat} (hD : 0 < D) {a b : Rat} (ha : a.den ∣ D) (hb : b.den ∣ D) : (a - b).den ∣ D := by
  rw [Rat.sub_eq_add_neg]
  exact den_add_dvd hD ha (by rw [Rat.neg_den]; exact hb)
theorem den_mul_dvd {D E : Nat} (hD : 0 < D) (hE : 0 < E) {a b : Rat} (ha : a.den ∣ D) (hb : b.den ∣ E) : (a * b).den ∣ D * E := by
  obtain ⟨k, rfl⟩ := (dv hD).mp ha
  obtain ⟨l, rfl⟩ := (dv hE).mp hb
  exact (dv (Nat.mul_pos hD hE)).mpr ⟨k * l, Rat.mkRat_mul_mkRat _ _ _ _⟩
theorem FrB.add {D m n : Nat} {a b : Rat} (hD : 0 < D) (ha : FrB D m a) (hb : FrB D n b) : FrB D (m + n) (a + b) := by
  refine ⟨den_add_dvd hD ha.1 hb.1, ?_, ?_⟩
  · have := ha.2.1; have := hb.2.1; grind
  · have := ha.2.2; have := hb.2.2; rw [Rat.natCast_add]; grind
theorem FrB.sub {D m n : Nat} {a b : Rat} (hD : 0 < D) (ha : FrB D m a) (hb : FrB D n b) (h : b ≤ a) : FrB D m (a - b) := by
  refine ⟨den_sub_dvd hD ha.1 hb.1, ?_, ?_⟩
  · grind
  · have := ha.2.2; have := hb.2.1; grind
theorem FrB.up {D m n : Nat} {a : Rat} (h : FrB D m a) (hm : m ≤ n) : FrB D n a := ⟨h.1, h.2.1, by have := h.2.2; have : (m : Rat) ≤ n := Rat.natCast_le_natCast.mpr hm; grind⟩
theorem FrB.zero {D m : Nat} : FrB D m 0 := ⟨Nat.one_dvd _, Rat.le_refl, Rat.natCast_nonneg⟩
theorem FrB.num {D m : Nat} {a : Rat} (hD : 0 < D) (h : FrB D m a) : 0 ≤ a.num ∧ a.num ≤ (m * D : Nat) ∧ a.den ≤ D := by
  have h1 := Nat.le_of_dvd hD h.1
  have h2 := (Rat.le_iff a m).mp h.2.2
  simp only [Rat.den_natCast, Rat.num_natCast] at h2
  have h3 : (m : Int) * a.den ≤ m * D := Int.mul_le_mul_of_nonneg_left (by omega) (by omega)
  refine ⟨Rat.num_nonneg.mpr h.2.1, ?_, h1⟩
  rw [Int.natCast_mul]; omega
theorem FrB.sm {D m : Nat} {a : Rat} (hD : 0 < D) (h : FrB D m a) (hs : m * D < 2 ^ 1000) (hs2 : D < 2 ^ 1000) : Sm a := by
  obtain ⟨h1, h2, h3⟩ := h.num hD
  exact ⟨by omega, by omega⟩
end G
/-! NB: goods, lots, tables with types. -/
namespace G
open PySem PySem.Spec PyProof.Rows L2
open PySem.W (dataLt dataLe alike keyToks)

/-! ### goods -/
structure Gd where
  nm : Str
  g : Int
  c : Int
  d : Int
  ms : List Str
def eG (x : Gd) : PyData := .tuple [.str x.nm, .int x.g, .int x.c, .int x.d, .tuple (x.ms.map .str)]
abbrev Names6 : List Str := ["apple", "eggs", "flour", "milk", "nut", "salt"]
abbrev Marks4 : List Str := ["dairy", "egg", "gluten", "nuts"]
structure GdO (x : Gd) : Prop where
  nm : x.nm ∈ Names6
  g0 : 0 < x.g
  g1 : x.g ≤ 1000
  c0 : 0 ≤ x.c
  c1 : x.c < 500
  d0 : 0 ≤ x.d
  d1 : x.d ≤ 30
  ms : List.Sublist x.ms Marks4
theorem list_of {α : Type} {P : PyData → Prop} {e : α → PyData} {Q : α → Prop} (h : ∀ x, P x → ∃ a, x = e a ∧ Q a) : ∀ xs : List PyData, (∀ x ∈ xs, P x) → ∃ as : List α, xs = as.map e ∧ ∀ a ∈ as, Q a
  | [], _ => ⟨[], rfl, fun a h => nomatch h⟩
  | x :: xs, hx => by
    obtain ⟨a, rfl, h1⟩ := h x (hx x (List.mem_cons_self ..))
    obtain ⟨as, rfl, h2⟩ := list_of h xs fun y hy => hx y (List.mem_cons_of_mem _ hy)
    refine ⟨a :: as, rfl, fun b hb => ?_⟩
    rcases List.mem_cons.mp hb with rfl | hb
    · exact h1
    · exact h2 b hb
theorem sub_strs {ms : List PyData} (h : List.Sublist ms [.str "dairy", .str "egg", .str "gluten", .str "nuts"]) : ∃ zs : List Str, ms = zs.map .str ∧ List.Sublist zs Marks4 := by
  have h' : List.Sublist ms (Marks4.map PyData.str) := h
  obtain ⟨zs, h1, h2⟩ := List.sublist_map_iff.mp h'
  exact ⟨zs, h2, h1⟩
theorem gd_of (x : PyData) (h : IsGd x) : ∃ g : Gd, x = eG g ∧ GdO g := by
  cases h with
  | @mk z a b c ms h1 h2 h3 h4 h5 h6 h7 =>
    obtain ⟨zs, rfl, hz⟩ := sub_strs h7
    simp at h6
    exact ⟨⟨z, a, b, c, zs⟩, rfl, h1, h2, h3, h4, h5, (by show 0 ≤ c; omega), (by show c ≤ 30; omega), hz⟩
theorem t_goods {n : Nat} {d : Dk} (h : d.ok (n + 43)) : ∃ (gs : List Gd) (d' : Dk), m__law_goods [.cel 0] [.lst d.l] = .ok (.dat (.tuple (gs.map eG))) [.lst (Dk.l d')] ∧ d'.ok n ∧ (∀ g ∈ gs, GdO g) ∧ 2 ≤ gs.length ∧ gs.length ≤ 6 ∧ gs.map (·.nm) = Names6.take gs.length := by
  obtain ⟨xs, d', e, h1, h2, h3, h4⟩ := s_goods h
  obtain ⟨gs, rfl, hg⟩ := list_of gd_of xs h2
  rw [List.length_map] at h3 h4
  have h6 : gs.length ≤ 6 := by
    have := congrArg List.length h4
    simp at this; omega
  refine ⟨gs, d', e, h1, hg, h3, h6, ?_⟩
  have e2 : (gs.map (·.nm)).map PyData.str = (Names6.take gs.length).map PyData.str := by
    rw [List.map_take, List.map_map]
    rw [List.map_map] at h4
    exact h4
  exact List.map_inj_right (fun _ _ => PyData.str.inj) |>.mp e2
abbrev gfindT (gs : List Gd) (z : Str) : Option Gd := gs.find? fun g => g.nm == z
def HasG (gs : List Gd) (z : Str) : Prop := ∃ g ∈ gs, g.nm = z
theorem HasG.find {gs : List Gd} {z : Str} (h : HasG gs z) : ∃ g, gfindT gs z = some g ∧ g ∈ gs ∧ g.nm = z := by
  obtain ⟨g, hg, rfl⟩ := h
  cases q : gfindT gs g.nm with
  | none => exact absurd (List.find?_eq_none.mp q g hg) (by simp)
  | some x => exact ⟨x, rfl, List.mem_of_find?_eq_some q, by have := List.find?_some q; simpa using this⟩
theorem t_good_of (gs : List Gd) (z : Str) : m_good_of [.dat (.tuple (gs.map eG)), .dat (.str z)] [] = .ok (.dat (match gfindT gs z with | some g => eG g | none => .none)) [] := by
  obtain ⟨h1, h2⟩ := forA_first (g := tName 2) (b := b_good_of_l1) eG (fun g : Gd => g.nm == z) (fun g a f => a = .dat (eG g) ∧ f.cells = []) (fun fr => ∃ v, fr = ⟨[some (.dat (.tuple (gs.map eG))), some (.dat (.str z)), v], [], 0⟩) gs ⟨[some (.dat (.tuple (gs.map eG))), some (.dat (.str z)), none], [], 0⟩ ⟨none, rfl⟩ fun g hg fr ⟨v, e⟩ => by
    subst e
    have hb : b_good_of_l1 ⟨[some (.dat (.tuple (gs.map eG))), some (.dat (.str z)), some (.dat (eG g))], [], 0⟩ = if (g.nm == z) = true then .ret (.dat (eG g)) ⟨[some (.dat (.tuple (gs.map eG))), some (.dat (.str z)), some (.dat (eG g))], [], 0⟩ else .nx ⟨[some (.dat (.tuple (gs.map eG))), some (.dat (.str z)), some (.dat (eG g))], [], 0⟩ := by
      simp [b_good_of_l1, eG, dIx, atI, ixN, dEq, eqOk_str, eqv_str]
    refine ⟨_, rfl, fun hp => ⟨.dat (eG g), ⟨[some (.dat (.tuple (gs.map eG))), some (.dat (.str z)), some (.dat (eG g))], [], 0⟩, ?_, rfl, rfl⟩, fun hp => ⟨⟨[some (.dat (.tuple (gs.map eG))), some (.dat (.str z)), some (.dat (eG g))], [], 0⟩, .inl ?_, _, rfl⟩⟩
    · show b_good_of_l1 _ = _
      exact hb.trans (if_pos hp)
    · exact hb.trans (if_neg (by rw [hp]; decide))
  unfold m_good_of b_good_of
  cases q : gfindT gs z with
  | some g =>
    obtain ⟨a, fr', e, rfl, hc⟩ := h1 g q
    simp [e, hc]
  | none =>
    obtain ⟨fr', e, v, rfl⟩ := h2 q
    simp [e]
def dayG (gs : List Gd) (z : Str) : Int := match gfindT gs z with
  | some g => g.d
  | none => 0
theorem t_days {gs : List Gd} {z : Str} (hl : gs.length ≤ 1000000) (h : HasG gs z) : m__law_days [.dat (.tuple (gs.map eG)), .dat (.str z)] [] = .ok (.dat (.int (dayG gs z))) [] := by
  obtain ⟨g, q, _, _⟩ := h.find
  have ec := xComp_typed (own := [2]) (g := tName 2) (t := b__law_days_t1) (f := b__law_days_e1) (e := xItems (xVar 0)) (fr := ⟨[some (.dat (.tuple (gs.map eG))), some (.dat (.str z)), none], [], 0⟩) eG (fun g : Gd => g.nm == z) (fun g => .int g.d) (fun g => ⟨[some (.dat (.tuple (gs.map eG))), some (.dat (.str z)), some (.dat (eG g))], [], 0⟩) gs (by simp) hl (fun _ _ => rfl) (fun _ => rfl)
    (fun g _ => by simp [b__law_days_t1, eG, dIx, atI, ixN, dEq, eqOk_str, eqv_str]) (fun g _ _ => by simp [b__law_days_e1, eG, dIx, atI, ixN])
  obtain ⟨r, hr⟩ := find_filter _ gs g q
  rw [hr] at ec
  unfold m__law_days b__law_days dayG
  rw [q]
  simp [ec, dIx, atI, ixN]

/-! ### lots -/
def eL (l : Lt Str) : PyData := .tuple [.str l.nm, .int l.t, eR l.q]
/-- a lot, as it was drawn -/
structure LtO (gs : List Gd) (l : Lt Str) : Prop where
  nm : HasG gs l.nm
  t0 : 0 ≤ l.t
  t1 : l.t < 12
  q0 : 0 < l.q
  q : FrB 420 40 l.q
theorem amt_of (x : PyData) (h : IsAmt x) : ∃ r : Rat, x = eR r ∧ 0 < r ∧ FrB 420 40 r := by
  cases h with
  | @mk p q h1 h2 h3 h4 h5 =>
    have e : ((q.toNat : Nat) : Int) = q := Int.toNat_of_nonneg (by omega)
    refine ⟨⟨p, q.toNat, by omega, by rw [Nat.Coprime, ← h5]; congr 1; omega⟩, ?_, ?_, ?_, ?_, ?_⟩
    · simp only [eR, e]
    · exact eR_pos.mp h1
    · show q.toNat ∣ 420
      have : q.toNat = 1 ∨ q.toNat = 2 ∨ q.toNat = 3 ∨ q.toNat = 4 ∨ q.toNat = 5 ∨ q.toNat = 6 ∨ q.toNat = 7 := by omega
      rcases this with h | h | h | h | h | h | h <;> rw [h] <;> decide
    · exact Rat.le_of_lt (eR_pos.mp h1)
    · rw [Rat.le_iff]
      show p * 1 ≤ 40 * (q.toNat : Int)
      omega
theorem lot_of {gs : List Gd} (x : PyData) (h : IsLot ((gs.map eG).map nmD) x) : ∃ l : Lt Str, x = eL l ∧ LtO gs l := by
  cases h with
  | @mk z t x h1 h2 h3 h4 =>
    obtain ⟨r, rfl, h5, h6⟩ := amt_of x h4
    refine ⟨⟨z, t, r⟩, rfl, ?_, h2, h3, h5, h6⟩
    rw [List.map_map] at h1
    obtain ⟨g, hg, e⟩ := List.mem_map.mp h1
    exact ⟨g, hg, PyData.str.inj e⟩
/-- keys in order -/
def keyLt (a b : Str × Int) : Bool := dataLt (.tuple [.str a.1, .int a.2]) (.tuple [.str b.1, .int b.2])
theorem lot_key {a b : Str} {i j : Int} {x y : PyData} (hne : ¬ (a = b ∧ i = j)) : dataLt (.tuple [.str a, .int i, x]) (.tuple [.str b, .int j, y]) = dataLt (.tuple [.str a, .int i]) (.tuple [.str b, .int j]) := by
  rw [PySem.W.dataLt_tuple, PySem.W.dataLt_tuple, PySem.W.dataLt_cons (al_str a b), PySem.W.dataLt_cons (al_str a b)]
  split
  · rename_i q
    rw [PySem.W.dataLt_cons (al_int i j), PySem.W.dataLt_cons (al_int i j)]
    split
    · rename_i q2
      simp [eqv_str, eqv_int] at q q2
      exact absurd ⟨q, q2⟩ hne
    · rfl
  · rfl
theorem keyLt_t {n : Str} {i j : Int} : keyLt (n, i) (n, j) = decide (i < j) := by
  unfold keyLt
  rw [PySem.W.dataLt_tuple, PySem.W.dataLt_cons (al_str n n), if_pos (by simp [eqv_str]), PySem.W.dataLt_cons (al_int i j)]
  split
  · rename_i q2
    simp [eqv_int] at q2
    subst q2
    rw [show decide (i < i) = false by simp]
    rfl
  · exact PySem.W.dataLt_int ..
theorem keyLt_irrefl (a : Str × Int) : keyLt a a = false := by
  obtain ⟨n, i⟩ := a
  rw [keyLt_t]; simp
abbrev RiseK (ks : List (Str × Int)) : Prop := ks.Pairwise fun a b => keyLt a b = true
theorem riseL {ls : List (Lt Str)} (h : RiseK (ls.map keyT)) : Rise (ls.map eL) := by
  unfold Rise
  unfold RiseK at h
  rw [List.pairwise_map] at h ⊢
  exact h.imp fun {a b} hab => key_lot hab
theorem eG_nm (g : Gd) : nmD (eG g) = .str g.nm := rfl
theorem t_store {n : Nat} {d : Dk} {gs : List Gd} (h : d.ok (n + 33)) (h0 : 0 < gs.length) (h1 : gs.length ≤ 6) : ∃ (ls : List (Lt Str)) (d' : Dk), m__law_store [.cel 0, .dat (.tuple (gs.map eG))] [.lst d.l] = .ok (.dat (.tuple (ls.map eL))) [.lst (Dk.l d')] ∧ d'.ok n ∧ (∀ l ∈ ls, LtO gs l) ∧ RiseK (ls.map keyT) ∧ ls.length ≤ 8 := by
  obtain ⟨xs, d', e, h2, h3, h4, h5, h6⟩ := s_store2 (gs := gs.map eG) h (fun x hx => by
    obtain ⟨g, hg, rfl⟩ := List.mem_map.mp hx
    exact ⟨g.nm, by simp [eG, dIx, atI, ixN], by rw [List.map_map]; exact List.mem_map.mpr ⟨g, hg, rfl⟩⟩) (by simpa using h0) (by simpa using h1)
  obtain ⟨ls, rfl, hl⟩ := list_of (lot_of (gs := gs)) xs h3
  refine ⟨ls, d', e, h2, hl, ?_, by simpa using h5⟩
  unfold RiseH at h6
  unfold RiseK
  rw [List.pairwise_map] at h6 ⊢
  exact h6
/-! ### tables by names -/
section
variable {β : Type}
def aget (kvs : List (Str × β)) (n : Str) : Option β := (kvs.find? fun q => q.1 == n).map (·.2)
def aput (kvs : List (Str × β)) (n : Str) (v : β) : List (Str × β) := if (aget kvs n).isSome = true then kvs.map fun q => if (q.1 == n) = true then (q.1, v) else q else kvs ++ [(n, v)]
def eK (e : β → PyData) (q : Str × β) : PyData × PyData := (.str q.1, e q.2)
variable {e : β → PyData} {kvs : List (Str × β)} {n : Str} {v : β}
theorem kfind_t : kfind (kvs.map (eK e)) (.str n) = (aget kvs n).map e := by
  unfold kfind aget
  rw [List.find?_map]
  have : ((fun q : PyData × PyData => PyData.eqv q.1 (.str n)) ∘ eK e) = fun q : Str × β => q.1 == n := rfl
  rw [this]
  cases (kvs.find? fun q => q.1 == n) <;> rfl
theorem kput_t : kput (kvs.map (eK e)) (.str n) (e v) = (aput kvs n v).map (eK e) := by
  unfold kput aput
  rw [kfind_t]
  have e1 : ((aget kvs n).map e).isSome = (aget kvs n).isSome := by cases aget kvs n <;> rfl
  rw [e1]
  split
  · rw [List.map_map, List.map_map]
    refine List.map_congr_left fun q _ => ?_
    show (if PyData.eqv (.str q.1) (.str n) = true then ((.str q.1, e v) : PyData × PyData) else (.str q.1, e q.2)) = eK e (if (q.1 == n) = true then (q.1, v) else q)
    rw [eqv_str]
    split <;> rfl
  · rw [List.map_append]; rfl
theorem aget_put (m : Str) : aget (aput kvs n v) m = if m = n then some v else aget kvs m := by
  unfold aput
  split
  · rename_i h
    have fm : ∀ l : List (Str × β), ((l.map fun q => if (q.1 == n) = true then (q.1, v) else q).find? fun q => q.1 == m) = (l.find? fun q => q.1 == m).map fun q => if (q.1 == n) = true then (q.1, v) else q := by
      intro l
      rw [List.find?_map]
      congr 1
      have : ((fun q : Str × β => q.1 == m) ∘ fun q : Str × β => if (q.1 == n) = true then (q.1, v) else q) = fun q : Str × β => q.1 == m := by
        funext q
        show ((if (q.1 == n) = true then (q.1, v) else q).1 == m) = _
        split <;> rfl
      rw [this]
    unfold aget at h ⊢
    rw [fm]
    by_cases hm : m = n
    · subst hm
      rw [if_pos rfl]
      cases q : (kvs.find? fun q => q.1 == m) with
      | none => rw [q] at h; cases h
      | some z =>
        have := List.find?_some q
        simp only [Option.map_some]
        rw [if_pos this]
    · rw [if_neg hm]
      cases q : (kvs.find? fun q => q.1 == m) with
      | none => rfl
      | some z =>
        have : z.1 = m := by have := List.find?_some q; simpa using this
        simp only [Option.map_some]
        rw [if_neg (by rw [this]; simpa using hm)]
  · rename_i h
    unfold aget at h ⊢
    rw [List.find?_append]
    by_cases hm : m = n
    · subst hm
      rw [if_pos rfl]
      cases q : (kvs.find? fun q => q.1 == m) with
      | none => simp
      | some z => rw [q] at h; exact absurd rfl h
    · rw [if_neg hm]
      have : ([(n, v)].find? fun q => q.1 == m) = none := by
        rw [List.find?_cons]
        have : ((n, v).1 == m) = false := by simpa using Ne.symm hm
        rw [this]; rfl
      rw [this, Option.or_none]
theorem aget_none : aget kvs n = none ↔ n ∉ kvs.map (·.1) := by
  unfold aget
  rw [Option.map_eq_none_iff, List.find?_eq_none]
  constructor
  · intro h hm
    obtain ⟨q, hq, rfl⟩ := List.mem_map.mp hm
    exact h q hq (by simp)
  · intro h q hq e
    exact h (List.mem_map.mpr ⟨q, hq, by simpa using e⟩)
theorem aput_keys : (aput kvs n v).map (·.1) = if n ∈ kvs.map (·.1) then kvs.map (·.1) else kvs.map (·.1) ++ [n] := by
  unfold aput
  by_cases h : n ∈ kvs.map (·.1)
  · rw [if_pos h, if_pos ?_]
    · rw [List.map_map]
      refine List.map_congr_left fun q _ => ?_
      show (if (q.1 == n) = true then (q.1, v) else q).1 = q.1
      split <;> rfl
    · cases q : aget kvs n with
      | none => exact absurd h (aget_none.mp q)
      | some z => rfl
  · rw [if_neg h, if_neg ?_]
    · simp
    · rw [aget_none.mpr h]; exact fun z => nomatch z
theorem aput_nodup (h : (kvs.map (·.1)).Nodup) : ((aput kvs n v).map (·.1)).Nodup := by
  rw [aput_keys]
  split
  · exact h
  · rename_i hn
    rw [List.nodup_append]
    refine ⟨h, by simp, fun a ha b hb e => ?_⟩
    rw [List.mem_singleton] at hb
    subst hb; subst e
    exact hn ha
theorem aput_len : (aput kvs n v).length ≤ kvs.length + 1 := by
  have := congrArg List.length (aput_keys (kvs := kvs) (n := n) (v := v))
  rw [List.length_map] at this
  rw [this]
  split <;> simp
theorem aput_all {P : Str × β → Prop} (h : ∀ q ∈ kvs, P q) (hn : P (n, v)) : ∀ q ∈ aput kvs n v, P q := by
  intro q hq
  unfold aput at hq
  split at hq
  · obtain ⟨z, hz, rfl⟩ := List.mem_map.mp hq
    split
    · rename_i e
      have : z.1 = n := by simpa using e
      rw [this]; exact hn
    · exact h z hz
  · rcases List.mem_append.mp hq with z | z
    · exact h q z
    · rw [List.mem_singleton.mp z]; exact hn
theorem aget_mem {b : β} (h : aget kvs n = some b) : (n, b) ∈ kvs := by
  unfold aget at h
  cases q : (kvs.find? fun q => q.1 == n) with
  | none => rw [q] at h; cases h
  | some z =>
    rw [q] at h
    cases h
    have : z.1 = n := by have := List.find?_some q; simpa using this
    rw [← this]
    exact List.mem_of_find?_eq_some q
theorem aget_of_mem {b : β} (nd : (kvs.map (·.1)).Nodup) (h : (n, b) ∈ kvs) : aget kvs n = some b := by
  induction kvs with
  | nil => cases h
  | cons q kvs ih =>
    rw [List.map_cons, List.nodup_cons] at nd
    unfold aget
    rw [List.find?_cons]
    rcases List.mem_cons.mp h with e | h
    · subst e; simp
    · have : (q.1 == n) = false := by
        cases z : (q.1 == n) with
        | false => rfl
        | true => exact absurd (List.mem_map.mpr ⟨_, h, (by simpa using z : q.1 = n).symm⟩) nd.1
      rw [this]
      exact ih nd.2 h
/-- two tables that tell the same are equal -/
theorem deq_t [DecidableEq β] {kls : List (Str × β)} (he : ∀ a b, PyData.eqv (e a) (e b) = decide (a = b)) (h1 : (kvs.map (·.1)).Nodup) (h2 : (kls.map (·.1)).Nodup) (h : ∀ n, aget kvs n = aget kls n) : deqB (kvs.map (eK e)) (kls.map (eK e)) = true := by
  unfold deqB
  have hm : ∀ n, n ∈ kvs.map (·.1) ↔ n ∈ kls.map (·.1) := fun n => by
    have a := aget_none (kvs := kvs) (n := n)
    have b := aget_none (kvs := kls) (n := n)
    rw [h n] at a
    exact Decidable.not_iff_not.mp (a.symm.trans b)
  have p := (List.perm_ext_iff_of_nodup h1 h2).mpr hm
  have hl := p.length_eq
  simp only [List.length_map] at hl
  rw [Bool.and_eq_true]
  refine ⟨by simp [hl], List.all_eq_true.mpr fun q hq => ?_⟩
  obtain ⟨z, hz, rfl⟩ := List.mem_map.mp hq
  show (match kfind (kls.map (eK e)) (.str z.1) with | some y => PyData.eqv (e z.2) y | none => false) = true
  rw [kfind_t, ← h, aget_of_mem h1 hz]
  show PyData.eqv (e z.2) (e z.2) = true
  rw [he]; simp
end
/-! ### rows of names and amounts -/
def eN (q : Str × Rat) : PyData := .tuple [.str q.1, eR q.2]
theorem sortOk_t {α : Type} {e : α → PyData} {xs : List α} (hl : xs.length ≤ 1000000) (ha : ∀ x ∈ xs, ∀ y ∈ xs, alike (e x) (e y) = true) (ht : ∀ x ∈ xs, tupB (e x) = true) (hd : ∀ x ∈ xs, (e x).depth ≤ 32) : sortOk (xs.map e) = true := by
  unfold sortOk allAlike
  simp only [Bool.and_eq_true, Bool.or_eq_true, List.all_eq_true, decide_eq_true_eq, List.length_map]
  refine ⟨⟨⟨hl, fun x hx y hy => ?_⟩, .inl fun x hx => ?_⟩, fun x hx => ?_⟩
  · obtain ⟨a, h1, rfl⟩ := List.mem_map.mp hx
    obtain ⟨b, h2, rfl⟩ := List.mem_map.mp hy
    exact ha a h1 b h2
  · obtain ⟨a, h1, rfl⟩ := List.mem_map.mp hx
    exact ht a h1
  · obtain ⟨a, h1, rfl⟩ := List.mem_map.mp hx
    exact hd a h1
/-- what is sorted, with its types -/
def srtT {α : Type} (e : α → PyData) (xs : List α) : List α := xs.mergeSort fun a b => srtLe (e a) (e b)
theorem srtT_map {α : Type} (e : α → PyData) (xs : List α) : (xs.map e).mergeSort srtLe = (srtT e xs).map e := by
  unfold srtT
  exact (List.map_mergeSort (f := e) (r := fun a b => srtLe (e a) (e b)) (s := srtLe) (l := xs) fun _ _ _ _ => rfl).symm
theorem srtT_perm {α : Type} (e : α → PyData) (xs : List α) : (srtT e xs).Perm xs := List.mergeSort_perm _ _
theorem eN_sortOk {xs : List (Str × Rat)} (hl : xs.length ≤ 1000000) : sortOk (xs.map eN) = true := sortOk_t hl (fun _ _ _ _ => by simp [eN, eR, alike, PySem.W.alikeAll]) (fun _ _ => rfl) (fun _ _ => by simp [eN, eR, PyData.depth, PyData.depthAll])
theorem items_t (kvs : List (Str × Rat)) : itemsD (kvs.map (eK eR)) = kvs.map eN := by unfold itemsD; rw [List.map_map]; rfl
theorem srtd_items {kvs : List (Str × Rat)} (hl : kvs.length ≤ 1000000) : dSortedI (kvs.map (eK eR)) = some (.list ((srtT eN kvs).map eN)) := by
  unfold dSortedI dSortL
  rw [items_t, if_pos (eN_sortOk hl), srtT_map]
theorem pairs_t (kvs : List (Str × Rat)) : pairsD (kvs.map eN) = some (kvs.map (eK eR)) := by
  induction kvs with
  | nil => rfl
  | cons q kvs ih =>
    rw [List.map_cons]
    show pairsD (.tuple [.str q.1, eR q.2] :: _) = _
    unfold pairsD
    rw [ih]
    rfl
theorem merge_t : ∀ (kvs acc : List (Str × Rat)), mergeD (acc.map (eK eR)) (kvs.map (eK eR)) = (kvs.foldl (fun a q => aput a q.1 q.2) acc).map (eK eR)
  | [], acc => rfl
  | q :: kvs, acc => by
    rw [List.map_cons]
    show mergeD (kput (acc.map (eK eR)) (.str q.1) (eR q.2)) _ = _
    rw [kput_t, merge_t kvs]
    rfl
/-- dict(rows), of rows with names unlike -/
theorem dict_nodup {kvs : List (Str × Rat)} (h : (kvs.map (·.1)).Nodup) : mergeD [] (kvs.map (eK eR)) = kvs.map (eK eR) := by
  have key : ∀ (kvs acc : List (Str × Rat)), ((acc ++ kvs).map (·.1)).Nodup → kvs.foldl (fun a q => aput a q.1 q.2) acc = acc ++ kvs := by
    intro kvs
    induction kvs with
    | nil => intro acc _; simp
    | cons q kvs ih =>
      intro acc nd
      rw [List.foldl_cons]
      have hn : q.1 ∉ acc.map (·.1) := by
        intro hm
        rw [List.map_append, List.nodup_append] at nd
        exact nd.2.2 _ hm _ (List.mem_map.mpr ⟨q, List.mem_cons_self .., rfl⟩) rfl
      have e1 : aput acc q.1 q.2 = acc ++ [q] := by
        unfold aput
        rw [aget_none.mpr hn]
        rfl
      rw [e1, ih _ (by rw [List.append_assoc]; exact nd), List.append_assoc]
      rfl
  have := merge_t kvs []
  rw [List.map_nil] at this
  rw [this, key kvs [] (by simpa using h), List.nil_append]
end G
/-! NC: stores: what is over, what lacks, what is taken, what is a store. -/
namespace G
open PySem PySem.Spec PyProof.Rows L2
open PySem.W (dataLt dataLe alike keyToks)

def b_is_whole : Fr → SRes :=
  sRet (xV (xAnd (xB (xIsi (isi "int") (xVar 0))) (xNot (xB (xIsi (isi "bool") (xVar 0))))))
def m_is_whole : AFun := mkFun 1 1 b_is_whole

def b_is_from : Fr → SRes :=
  sRet (xV (xAnd (xB (xCall m_is_whole (xCons (xVar 0) (xNil)))) (xB (xChain dLe dLe (xVar 1) (xVar 0) (xVar 2)))))
def m_is_from : AFun := mkFun 3 3 b_is_from

def b_is_rising_e1 : Fr → Res AV :=
  xOp2 dLt (xVar 1) (xVar 2)
def b_is_rising : Fr → SRes :=
  sRet (xB1 dAll (xCons (xComp [1, 2] (xZip (xVar 0) (xSl (xVar 0) (xSo (xC (.int 1))) (xNo))) (tNames [1, 2]) (xYes) (b_is_rising_e1)) (xNil)))
def m_is_rising : AFun := mkFun 3 1 b_is_rising

def b_is_fraction : Fr → SRes :=
  sSeq (sIf (xOr (xNot (xB (xIsi (isi "tuple") (xVar 0)))) (xOr (xB (xOp2 dNe (xB1 dLen (xCons (xVar 0) (xNil))) (xC (.int 2)))) (xOr (xNot (xB (xCall m_is_whole (xCons (xIx (xVar 0) (xC (.int 0))) (xNil))))) (xNot (xB (xCall m_is_whole (xCons (xIx (xVar 0) (xC (.int 1))) (xNil)))))))) (sRet (xC (.bool false))) (sNx))
  (sRet (xV (xAnd (xB (xOp2 dGt (xIx (xVar 0) (xC (.int 1))) (xC (.int 0)))) (xB (xOp2 dEq (xCall m_divisor (xCons (xIx (xVar 0) (xC (.int 0))) (xCons (xIx (xVar 0) (xC (.int 1))) (xNil)))) (xC (.int 1)))))))
def m_is_fraction : AFun := mkFun 1 1 b_is_fraction

def b_is_amount : Fr → SRes :=
  sRet (xV (xAnd (xB (xCall m_is_fraction (xCons (xVar 0) (xNil)))) (xB (xOp2 dGt (xIx (xVar 0) (xC (.int 0))) (xC (.int 0))))))
def m_is_amount : AFun := mkFun 1 1 b_is_amount

def b_is_store_l1 : Fr → SRes :=
  sSeq (sIf (xOr (xNot (xB (xIsi (isi "tuple") (xVar 2)))) (xOr (xB (xOp2 dNe (xB1 dLen (xCons (xVar 2) (xNil))) (xC (.int 3)))) (xNot (xB (xIsi (isi "str") (xIx (xVar 2) (xC (.int 0)))))))) (sRet (xC (.bool false))) (sNx))
  (sIf (xOr (xB (xOp2 dIsN (xCall m_good_of (xCons (xVar 0) (xCons (xIx (xVar 2) (xC (.int 0))) (xNil)))) (xC .none))) (xOr (xNot (xB (xCall m_is_from (xCons (xIx (xVar 2) (xC (.int 1))) (xCons (xC (.int 0)) (xCons (xC (.int 1000000)) (xNil))))))) (xNot (xB (xCall m_is_amount (xCons (xIx (xVar 2) (xC (.int 2))) (xNil))))))) (sRet (xC (.bool false))) (sNx))
def b_is_store_e1 : Fr → Res AV :=
  xSl (xVar 2) (xNo) (xSo (xC (.int 2)))
def b_is_store : Fr → SRes :=
  sSeq (sIf (xOr (xNot (xB (xIsi (isi "tuple") (xVar 1)))) (xB (xOp2 dGt (xB1 dLen (xCons (xVar 1) (xNil))) (xC (.int 60))))) (sRet (xC (.bool false))) (sNx))
  (sSeq (sFor (xItems (xVar 1)) (tName 2) (b_is_store_l1))
  (sKill [2] (sRet (xCall m_is_rising (xCons (xComp [2] (xItems (xVar 1)) (tName 2) (xYes) (b_is_store_e1)) (xNil))))))
def m_is_store : AFun := mkFun 3 2 b_is_store

def b_lacking_l1 : Fr → SRes :=
  sIf (xAnd (xB (xOp2 dEq (xIx (xVar 8) (xC (.int 0))) (xVar 5))) (xNot (xB (xCall m_is_over (xCons (xVar 0) (xCons (xVar 8) (xCons (xVar 3) (xNil)))))))) (sSet 7 (xCall m_plus (xCons (xVar 7) (xCons (xIx (xVar 8) (xC (.int 2))) (xNil))))) (sNx)
def b_lacking_l2 : Fr → SRes :=
  sKill [7, 8] (sSeq (sSet 7 (xC (.tuple [.int 0, .int 1])))
  (sSeq (sFor (xItems (xVar 1)) (tName 8) (b_lacking_l1))
  (sKill [8] (sIf (xB (xCall m_is_less (xCons (xVar 7) (xCons (xVar 6) (xNil))))) (sApp 4 (xTup (xCons (xVar 5) (xCons (xCall m_minus (xCons (xVar 6) (xCons (xVar 7) (xNil)))) (xNil))))) (sNx)))))
def b_lacking : Fr → SRes :=
  sSeq (sSet 4 (xNewL (xNil)))
  (sSeq (sFor (xItems (xVar 2)) (tNames [5, 6]) (b_lacking_l2))
  (sKill [5, 6, 7, 8] (sRet (xVar 4))))
def m_lacking : AFun := mkFun 9 4 b_lacking

def b_to_buy : Fr → SRes :=
  sRet (xCall m_lacking (xCons (xVar 0) (xCons (xVar 1) (xCons (xVar 2) (xCons (xVar 3) (xNil))))))
def m_to_buy : AFun := mkFun 4 4 b_to_buy

def b_taken_l1 : Fr → SRes :=
  sErr
def b_taken_l2 : Fr → SRes :=
  sKill [10, 11] (sSeq (sSet 10 (xIf (xB (xCall m_is_over (xCons (xVar 0) (xCons (xVar 9) (xCons (xVar 3) (xNil)))))) (xC (.tuple [.int 0, .int 1])) (xDGetD (xVar 6) (xIx (xVar 9) (xC (.int 0))) (xC (.tuple [.int 0, .int 1])))))
  (sSeq (sSet 11 (xIf (xB (xCall m_is_less (xCons (xIx (xVar 9) (xC (.int 2))) (xCons (xVar 10) (xNil))))) (xIx (xVar 9) (xC (.int 2))) (xVar 10)))
  (sSeq (sIf (xB (xOp2 dGt (xIx (xVar 11) (xC (.int 0))) (xC (.int 0)))) (sSeq (sApp 7 (xOp2 dAdd (xSl (xVar 9) (xNo) (xSo (xC (.int 2)))) (xTup (xCons (xVar 11) (xNil)))))
  (sDSet 6 (xIx (xVar 9) (xC (.int 0))) (xCall m_minus (xCons (xVar 10) (xCons (xVar 11) (xNil)))))) (sNx))
  (sIf (xB (xOp2 dNe (xVar 11) (xIx (xVar 9) (xC (.int 2))))) (sApp 8 (xOp2 dAdd (xSl (xVar 9) (xNo) (xSo (xC (.int 2)))) (xTup (xCons (xCall m_minus (xCons (xIx (xVar 9) (xC (.int 2))) (xCons (xVar 11) (xNil)))) (xNil))))) (sNx)))))
def b_taken : Fr → SRes :=
  sSeq (sFor (xItems (xCall m_lacking (xCons (xVar 0) (xCons (xVar 1) (xCons (xVar 2) (xCons (xVar 3) (xNil))))))) (tNames [4, 5]) (b_taken_l1))
  (sKill [4, 5] (sSeq (sSet 6 (xDictF (xVar 2)))
  (sSeq (sPar 7 8 (xCons (xNewL (xNil)) (xCons (xNewL (xNil)) (xNil))))
  (sSeq (sFor (xItems (xVar 1)) (tName 9) (b_taken_l2))
  (sKill [9, 10, 11] (sFrzM 7 (sRet (xTup (xCons (xVar 7) (xCons (xB1 dTuple (xCons (xVar 8) (xNil))) (xNil)))))))))))
def m_taken : AFun := mkFun 12 4 b_taken

def b__law_wants_l1 : Fr → SRes :=
  sKill [3] (sDSet 2 (xIx (xCall m__law_one (xCons (xVar 0) (xCons (xVar 1) (xNil)))) (xC (.int 0))) (xCall m__law_amount (xCons (xVar 0) (xNil))))
def b__law_wants : Fr → SRes :=
  sSeq (sSet 2 (xNewD false))
  (sSeq (sFor (xRange1 (xOp2 dAdd (xC (.int 1)) (xCall m__law_pick (xCons (xVar 0) (xCons (xC (.int 3)) (xNil)))))) (tName 3) (b__law_wants_l1))
  (sKill [3] (sRet (xD1 dSortedI (xVar 2)))))
def m__law_wants : AFun := mkFun 4 2 b__law_wants

def b__law_sums_l1 : Fr → SRes :=
  sDSet 1 (xIx (xVar 2) (xC (.int 0))) (xCall m__law_plus (xCons (xDGetD (xVar 1) (xIx (xVar 2) (xC (.int 0))) (xTup (xCons (xC (.int 0)) (xCons (xC (.int 1)) (xNil))))) (xCons (xIx (xVar 2) (xOp1 dNeg (xC (.int 1)))) (xNil))))
def b__law_sums : Fr → SRes :=
  sSeq (sSet 1 (xNewD false))
  (sSeq (sFor (xItems (xVar 0)) (tName 2) (b__law_sums_l1))
  (sKill [2] (sRet (xVar 1))))
def m__law_sums : AFun := mkFun 3 1 b__law_sums

/-! ### what is over -/
def ovG (gs : List Gd) (day : Int) (l : Lt Str) : Bool := decide (l.t + dayG gs l.nm < day)
theorem ovG_key {gs : List Gd} {day : Int} (l m : Lt Str) (h : keyT l = keyT m) : ovG gs day l = ovG gs day m := by
  unfold ovG
  have h1 := congrArg Prod.fst h
  have h2 := congrArg Prod.snd h
  simp only [keyT] at h1 h2
  rw [h1, h2]
theorem t_is_over {gs : List Gd} {l : Lt Str} {day : Int} (h : HasG gs l.nm) : m_is_over [.dat (.tuple (gs.map eG)), .dat (eL l), .dat (.int day)] [] = .ok (.dat (.bool (ovG gs day l))) [] := by
  obtain ⟨g, q, _, _⟩ := h.find
  have e := t_good_of gs l.nm
  rw [q] at e
  unfold m_is_over b_is_over
  simp [eL, dIx, atI, ixN, e, eG, dAdd, dGt, ovG, dayG, q]
theorem t_lis_over {gs : List Gd} {l : Lt Str} {day : Int} (hz : gs.length ≤ 1000000) (h : HasG gs l.nm) : m__law_is_over [.dat (.tuple (gs.map eG)), .dat (eL l), .dat (.int day)] [] = .ok (.dat (.bool (ovG gs day l))) [] := by
  have e := t_days hz h
  unfold m__law_is_over b__law_is_over
  simp [eL, dIx, atI, ixN, e, dAdd, dGt, ovG]
theorem t_over {gs : List Gd} {ls : List (Lt Str)} {day : Int} (hl : ∀ l ∈ ls, HasG gs l.nm) (hz : ls.length ≤ 1000000) : m_over [.dat (.tuple (gs.map eG)), .dat (.tuple (ls.map eL)), .dat (.int day)] [] = .ok (.dat (.list ((ls.filter (ovG gs day)).map eL))) [] := by
  have ec := xComp_typed (own := [3]) (g := tName 3) (t := b_over_t1) (f := b_over_e1) (e := xItems (xVar 1)) (fr := ⟨[some (.dat (.tuple (gs.map eG))), some (.dat (.tuple (ls.map eL))), some (.dat (.int day)), none], [], 0⟩) eL (ovG gs day) eL (fun l => ⟨[some (.dat (.tuple (gs.map eG))), some (.dat (.tuple (ls.map eL))), some (.dat (.int day)), some (.dat (eL l))], [], 0⟩) ls (by simp) hz (fun _ _ => rfl) (fun _ => rfl)
    (fun l h => by simp [b_over_t1, t_is_over (hl l h)]) (fun _ _ _ => by simp [b_over_e1])
  unfold m_over b_over
  simp [ec]
theorem t_kept {gs : List Gd} {ls : List (Lt Str)} {day : Int} (hl : ∀ l ∈ ls, HasG gs l.nm) (hz : ls.length ≤ 1000000) : m_kept [.dat (.tuple (gs.map eG)), .dat (.tuple (ls.map eL)), .dat (.int day)] [] = .ok (.dat (.tuple ((ls.filter fun l => !ovG gs day l).map eL))) [] := by
  have ec := xComp_typed (own := [3]) (g := tName 3) (t := b_kept_t1) (f := b_kept_e1) (e := xItems (xVar 1)) (fr := ⟨[some (.dat (.tuple (gs.map eG))), some (.dat (.tuple (ls.map eL))), some (.dat (.int day)), none], [], 0⟩) eL (fun l => !ovG gs day l) eL (fun l => ⟨[some (.dat (.tuple (gs.map eG))), some (.dat (.tuple (ls.map eL))), some (.dat (.int day)), some (.dat (eL l))], [], 0⟩) ls (by simp) hz (fun _ _ => rfl) (fun _ => rfl)
    (fun l h => by simp [b_kept_t1, t_is_over (hl l h)]) (fun _ _ _ => by simp [b_kept_e1])
  unfold m_kept b_kept
  simp [ec]

/-! ### what lacks -/
/-- how much of a name is there, that isn't over -/
abbrev thereG (gs : List Gd) (day : Int) (ls : List (Lt Str)) (n : Str) : Rat := avail (ovG gs day) ls n
def lackL (av : Str → Rat) (ns : List (Str × Rat)) : List (Str × Rat) := (ns.filter fun q => decide (av q.1 < q.2)).map fun q => (q.1, q.2 - av q.1)
theorem avail_snoc {ov : Lt Str → Bool} {ls : List (Lt Str)} {l : Lt Str} {n : Str} : avail ov (ls ++ [l]) n = avail ov ls n + (if (l.nm == n && !ov l) = true then l.q else 0) := by
  unfold avail
  rw [List.filter_append, sumOf_append]
  congr 1
  rw [List.filter_cons]
  cases ov l with
  | true => simp [sumOf_nil]
  | false =>
    simp only [Bool.not_false, if_true, List.filter_nil, sumOf_cons, sumOf_nil, Bool.and_true, beq_iff_eq]
    grind
/-- stores that can be reckoned with: bounds of all their sums -/
structure StO (gs : List Gd) (D M : Nat) (ls : List (Lt Str)) : Prop where
  nm : ∀ l ∈ ls, HasG gs l.nm
  q0 : ∀ l ∈ ls, 0 < l.q
  q : ∀ l ∈ ls, FrB D M l.q
  len : ls.length ≤ 60
theorem StO.avail {gs : List Gd} {D M : Nat} (hD : 0 < D) {ov : Lt Str → Bool} {n : Str} : ∀ {ls : List (Lt Str)}, (∀ l ∈ ls, FrB D M l.q) → FrB D (M * ls.length) (avail ov ls n)
  | [], _ => FrB.zero
  | l :: ls, h => by
    have e : G.avail ov (l :: ls) n = (if (l.nm == n && !ov l) = true then l.q else 0) + G.avail ov ls n := by
      unfold G.avail
      rw [List.filter_cons]
      cases ov l with
      | true => simp; grind
      | false => simp [sumOf_cons]
    rw [e, List.length_cons, Nat.mul_succ, Nat.add_comm]
    refine FrB.add hD ?_ (StO.avail (gs := gs) hD fun m hm => h m (List.mem_cons_of_mem _ hm))
    split
    · exact h l (List.mem_cons_self ..)
    · exact FrB.zero
theorem lackL_len {av : Str → Rat} {ns : List (Str × Rat)} : (lackL av ns).length ≤ ns.length := by
  unfold lackL
  rw [List.length_map]
  exact List.length_filter_le _ _
theorem lackL_snoc {av : Str → Rat} {ns : List (Str × Rat)} {q : Str × Rat} : lackL av (ns ++ [q]) = lackL av ns ++ (if av q.1 < q.2 then [(q.1, q.2 - av q.1)] else []) := by
  unfold lackL
  rw [List.filter_append, List.map_append]
  congr 1
  rw [List.filter_cons]
  by_cases h : av q.1 < q.2 <;> simp [h]
/-- needs that can be reckoned with -/
structure NdO (D N : Nat) (ns : List (Str × Rat)) : Prop where
  q0 : ∀ q ∈ ns, 0 < q.2
  q : ∀ q ∈ ns, FrB D N q.2
  len : ns.length ≤ 1000
  nd : (ns.map (·.1)).Nodup
theorem take_of {α : Type} {xs done rest : List α} {x : α} (e : xs = done ++ x :: rest) : x ∈ xs ∧ (∀ y ∈ done, y ∈ xs) ∧ done.length < xs.length := by
  subst e
  refine ⟨by simp, fun y h => by simp [h], by simp⟩
theorem lack_in {gs : List Gd} {ls : List (Lt Str)} {D M : Nat} {day : Int} {n : Str} {v1 v2 v4 v6 : Option AV} {v8 : Option AV} {cs : List Cell} {bs : Nat} (hD : 0 < D) (hs : M * 61 * D < 2 ^ 1000) (hs2 : D < 2 ^ 1000) (hl : StO gs D M ls) :
    ∃ v8', forA (tName 8) b_lacking_l1 (ls.map eL) ⟨[some (.dat (.tuple (gs.map eG))), v1, v2, some (.dat (.int day)), v4, some (.dat (.str n)), v6, some (.dat (eR 0)), v8], cs, bs⟩ = .nx ⟨[some (.dat (.tuple (gs.map eG))), v1, v2, some (.dat (.int day)), v4, some (.dat (.str n)), v6, some (.dat (eR (thereG gs day ls n))), v8'], cs, bs⟩ := by
  have key := forA_typed (g := tName 8) (b := b_lacking_l1) eL (fun done fr => ∃ v8', fr = ⟨[some (.dat (.tuple (gs.map eG))), v1, v2, some (.dat (.int day)), v4, some (.dat (.str n)), v6, some (.dat (eR (thereG gs day done n))), v8'], cs, bs⟩) ls ⟨[some (.dat (.tuple (gs.map eG))), v1, v2, some (.dat (.int day)), v4, some (.dat (.str n)), v6, some (.dat (eR 0)), v8], cs, bs⟩ ⟨v8, rfl⟩ ?_
  · obtain ⟨fr', e, v8', rfl⟩ := key
    exact ⟨v8', e⟩
  · rintro done l rest fr he ⟨v8', rfl⟩
    obtain ⟨hm, hd, hlen⟩ := take_of he
    have ha : FrB D (M * done.length) (thereG gs day done n) := StO.avail (gs := gs) hD fun m hm => hl.q m (hd m hm)
    have h60 := hl.len
    have hle : M * done.length ≤ M * 61 := Nat.mul_le_mul_left _ (by omega)
    have hle2 : M ≤ M * 61 := Nat.le_mul_of_pos_right _ (by decide)
    have h3 : M * 61 * D < 2 ^ 1000 := hs
    have s1 : Sm (thereG gs day done n) := (ha.up hle).sm hD hs hs2
    have s2 : Sm l.q := ((hl.q l hm).up hle2).sm hD hs hs2
    refine ⟨_, ⟨[some (.dat (.tuple (gs.map eG))), v1, v2, some (.dat (.int day)), v4, some (.dat (.str n)), v6, some (.dat (eR (thereG gs day (done ++ [l]) n))), some (.dat (eL l))], cs, bs⟩, rfl, .inl ?_, _, rfl⟩
    have ho := t_is_over (day := day) (hl.nm l hm)
    have hx : dIx (eL l) (.int 0) = some (.str l.nm) := by simp [eL, dIx, atI, ixN]
    have hx2 : dIx (eL l) (.int 2) = some (eR l.q) := by simp [eL, dIx, atI, ixN]
    have hp := s_plus s1 s2
    rw [show thereG gs day (done ++ [l]) n = thereG gs day done n + (if (l.nm == n && !ovG gs day l) = true then l.q else 0) from avail_snoc]
    generalize thereG gs day done n = t at *
    have e0 : t + 0 = t := by grind
    by_cases hn : l.nm = n
    · cases o : ovG gs day l with
      | true =>
        rw [o] at ho
        simp [b_lacking_l1, hx, dEq, eqOk_str, eqv_str, hn, ho, e0]
      | false =>
        rw [o] at ho
        simp [b_lacking_l1, hx, dEq, eqOk_str, eqv_str, hn, ho, hx2, hp]
    · simp [b_lacking_l1, hx, dEq, eqOk_str, eqv_str, hn, e0]
theorem t_lacking {gs : List Gd} {ls : List (Lt Str)} {ns : List (Str × Rat)} {D M N : Nat} {day : Int} (hD : 0 < D) (hs : M * 61 * D < 2 ^ 1000) (hs2 : D < 2 ^ 1000) (hs3 : N * D < 2 ^ 1000) (hl : StO gs D M ls) (hn : NdO D N ns) :
    m_lacking [.dat (.tuple (gs.map eG)), .dat (.tuple (ls.map eL)), .dat (.list (ns.map eN)), .dat (.int day)] [] = .ok (.dat (.list ((lackL (thereG gs day ls) ns).map eN))) [] := by
  have key := forA_typed (g := tNames [5, 6]) (b := b_lacking_l2) eN (fun done fr => ∃ v5 v6 v7 v8, fr = ⟨[some (.dat (.tuple (gs.map eG))), some (.dat (.tuple (ls.map eL))), some (.dat (.list (ns.map eN))), some (.dat (.int day)), some (.cel 0), v5, v6, v7, v8], [.lst ((lackL (thereG gs day ls) done).map eN)], 0⟩) ns ⟨[some (.dat (.tuple (gs.map eG))), some (.dat (.tuple (ls.map eL))), some (.dat (.list (ns.map eN))), some (.dat (.int day)), some (.cel 0), none, none, none, none], [.lst []], 0⟩ ⟨none, none, none, none, rfl⟩ ?_
  · obtain ⟨fr', e, v5, v6, v7, v8, rfl⟩ := key
    unfold m_lacking b_lacking
    simp [e]
  · rintro done q rest fr he ⟨v5, v6, v7, v8, rfl⟩
    obtain ⟨hm, hd, hlen⟩ := take_of he
    obtain ⟨v8', e1⟩ := lack_in (gs := gs) (ls := ls) (day := day) (n := q.1) (v1 := some (.dat (.tuple (ls.map eL)))) (v2 := some (.dat (.list (ns.map eN)))) (v4 := some (.cel 0)) (v6 := some (.dat (eR q.2))) (v8 := none) (cs := [.lst ((lackL (thereG gs day ls) done).map eN)]) (bs := 0) hD hs hs2 hl
    have ha : FrB D (M * ls.length) (thereG gs day ls q.1) := StO.avail (gs := gs) hD hl.q
    have h60 := hl.len
    have s1 : Sm (thereG gs day ls q.1) := (ha.up (Nat.mul_le_mul_left _ (by omega : ls.length ≤ 61))).sm hD hs hs2
    have s2 : Sm q.2 := (hn.q q hm).sm hD hs3 hs2
    have hlt := s_is_less s1 s2
    have hmi := s_minus s2 s1
    have hll : (lackL (thereG gs day ls) done).length < 1000000 := by
      have := lackL_len (av := thereG gs day ls) (ns := done)
      have := hn.len
      omega
    refine ⟨⟨[some (.dat (.tuple (gs.map eG))), some (.dat (.tuple (ls.map eL))), some (.dat (.list (ns.map eN))), some (.dat (.int day)), some (.cel 0), some (.dat (.str q.1)), some (.dat (eR q.2)), v7, v8], [.lst ((lackL (thereG gs day ls) done).map eN)], 0⟩, ⟨[some (.dat (.tuple (gs.map eG))), some (.dat (.tuple (ls.map eL))), some (.dat (.list (ns.map eN))), some (.dat (.int day)), some (.cel 0), some (.dat (.str q.1)), some (.dat (eR q.2)), some (.dat (eR (thereG gs day ls q.1))), none], [.lst ((lackL (thereG gs day ls) (done ++ [q])).map eN)], 0⟩, rfl, .inl ?_, _, _, _, _, rfl⟩
    rw [lackL_snoc]
    rw [eR_zero] at e1
    by_cases h : thereG gs day ls q.1 < q.2
    · simp [b_lacking_l2, e1, hlt, h, hmi, hll, eN]
    · simp [b_lacking_l2, e1, hlt, h]
theorem t_to_buy {gs : List Gd} {ls : List (Lt Str)} {ns : List (Str × Rat)} {D M N : Nat} {day : Int} (hD : 0 < D) (hs : M * 61 * D < 2 ^ 1000) (hs2 : D < 2 ^ 1000) (hs3 : N * D < 2 ^ 1000) (hl : StO gs D M ls) (hn : NdO D N ns) :
    m_to_buy [.dat (.tuple (gs.map eG)), .dat (.tuple (ls.map eL)), .dat (.list (ns.map eN)), .dat (.int day)] [] = .ok (.dat (.list ((lackL (thereG gs day ls) ns).map eN))) [] := by
  have e := t_lacking (day := day) hD hs hs2 hs3 hl hn
  unfold m_to_buy b_to_buy
  simp [e]
/-! ### what is taken -/
theorem lot_ix0 (l : Lt Str) : dIx (eL l) (.int 0) = some (.str l.nm) := by simp [eL, dIx, atI, ixN]
theorem lot_ix1 (l : Lt Str) : dIx (eL l) (.int 1) = some (.int l.t) := by simp [eL, dIx, atI, ixN]
theorem lot_ix2 (l : Lt Str) : dIx (eL l) (.int 2) = some (eR l.q) := by simp [eL, dIx, atI, ixN]
theorem lot_sl (l : Lt Str) : dSl (eL l) none (some 2) = some (.tuple [.str l.nm, .int l.t]) := by
  simp only [eL, dSl, cut_take _ 2 (by decide)]; rfl
theorem eR_ix0 (q : Rat) : dIx (eR q) (.int 0) = some (.int q.num) := by simp [eR, dIx, atI, ixN]
theorem eR_ix1 (q : Rat) : dIx (eR q) (.int 1) = some (.int q.den) := by simp [eR, dIx, atI, ixN]
theorem eqOk_R (q : Rat) (x : PyData) : eqOk (eR q) x = true := eqOk_l (by rw [eR_depth]; decide)
theorem num_pos {q : Rat} : (0 < q.num) = (0 < q) := propext eR_pos
def nextK (ov : Lt Str → Bool) (kvs : List (Str × Rat)) (w : Str → Rat) (l : Lt Str) : List (Str × Rat) := if 0 < partT ov w l then aput kvs l.nm (wantT ov w l - partT ov w l) else kvs
theorem take_step {gs : List Gd} {l : Lt Str} {D M : Nat} {day : Int} {kvs : List (Str × Rat)} {rows rest : List (Lt Str)} {w : Str → Rat} {v1 v2 v4 v5 v10 v11 : Option AV} (hD : 0 < D) (hs : M * D < 2 ^ 1000) (hs2 : D < 2 ^ 1000) (hl : HasG gs l.nm) (hq : FrB D M l.q) (hk : ∀ q ∈ kvs, FrB D M q.2) (hkl : kvs.length < 1000000) (hw : ∀ n, w n = (aget kvs n).getD 0) (hr : rows.length < 1000000) (hr2 : rest.length < 1000000) :
    b_taken_l2 ⟨[some (.dat (.tuple (gs.map eG))), v1, v2, some (.dat (.int day)), v4, v5, some (.cel 0), some (.cel 1), some (.cel 2), some (.dat (eL l)), v10, v11], [.dct false (kvs.map (eK eR)), .lst (rows.map eL), .lst (rest.map eL)], 0⟩
    = .nx ⟨[some (.dat (.tuple (gs.map eG))), v1, v2, some (.dat (.int day)), v4, v5, some (.cel 0), some (.cel 1), some (.cel 2), some (.dat (eL l)), some (.dat (eR (wantT (ovG gs day) w l))), some (.dat (eR (partT (ovG gs day) w l)))], [.dct false ((nextK (ovG gs day) kvs w l).map (eK eR)), .lst ((rows ++ rowT (ovG gs day) w l).map eL), .lst ((rest ++ restT (ovG gs day) w l).map eL)], 0⟩ := by
  have ho := t_is_over (day := day) hl
  have hwl : FrB D M (wantT (ovG gs day) w l) := by
    unfold wantT
    split
    · exact FrB.zero
    · rw [hw]
      cases q : aget kvs l.nm with
      | none => exact FrB.zero
      | some r => exact hk _ (aget_mem q)
  have hpl : FrB D M (partT (ovG gs day) w l) := by unfold partT; split <;> assumption
  have s1 := hq.sm hD hs hs2
  have s2 := hwl.sm hD hs hs2
  have s3 := hpl.sm hD hs hs2
  have hlt := s_is_less s1 s2
  have hm1 := s_minus s2 s3
  have hm2 := s_minus s1 s3
  have hg : (kfind (kvs.map (eK eR)) (.str l.nm)).getD (.tuple [.int 0, .int 1]) = eR (w l.nm) := by
    rw [kfind_t, hw]
    cases aget kvs l.nm <;> rfl
  have hwant : (if ovG gs day l = true then (.tuple [.int 0, .int 1] : PyData) else eR (w l.nm)) = eR (wantT (ovG gs day) w l) := by
    unfold wantT
    split <;> rfl
  have hpart : (if l.q < wantT (ovG gs day) w l then eR l.q else eR (wantT (ovG gs day) w l)) = eR (partT (ovG gs day) w l) := by
    unfold partT
    split <;> rfl
  unfold nextK rowT restT
  generalize partT (ovG gs day) w l = pt at *
  have step1 : xIf (xB (xCall m_is_over (xCons (xVar 0) (xCons (xVar 9) (xCons (xVar 3) (xNil)))))) (xC (.tuple [.int 0, .int 1])) (xDGetD (xVar 6) (xIx (xVar 9) (xC (.int 0))) (xC (.tuple [.int 0, .int 1]))) ⟨[some (.dat (.tuple (gs.map eG))), v1, v2, some (.dat (.int day)), v4, v5, some (.cel 0), some (.cel 1), some (.cel 2), some (.dat (eL l)), none, none], [.dct false (kvs.map (eK eR)), .lst (rows.map eL), .lst (rest.map eL)], 0⟩ = .ok (.dat (eR (wantT (ovG gs day) w l))) ⟨[some (.dat (.tuple (gs.map eG))), v1, v2, some (.dat (.int day)), v4, v5, some (.cel 0), some (.cel 1), some (.cel 2), some (.dat (eL l)), none, none], [.dct false (kvs.map (eK eR)), .lst (rows.map eL), .lst (rest.map eL)], 0⟩ := by
    rw [← hwant]
    cases o : ovG gs day l with
    | true => rw [o] at ho; simp [ho]
    | false => rw [o] at ho; simp [ho, lot_ix0, kOk, hg]
  generalize wantT (ovG gs day) w l = wt at *
  have step2 : xIf (xB (xCall m_is_less (xCons (xIx (xVar 9) (xC (.int 2))) (xCons (xVar 10) (xNil))))) (xIx (xVar 9) (xC (.int 2))) (xVar 10) ⟨[some (.dat (.tuple (gs.map eG))), v1, v2, some (.dat (.int day)), v4, v5, some (.cel 0), some (.cel 1), some (.cel 2), some (.dat (eL l)), some (.dat (eR wt)), none], [.dct false (kvs.map (eK eR)), .lst (rows.map eL), .lst (rest.map eL)], 0⟩ = .ok (.dat (eR pt)) ⟨[some (.dat (.tuple (gs.map eG))), v1, v2, some (.dat (.int day)), v4, v5, some (.cel 0), some (.cel 1), some (.cel 2), some (.dat (eL l)), some (.dat (eR wt)), none], [.dct false (kvs.map (eK eR)), .lst (rows.map eL), .lst (rest.map eL)], 0⟩ := by
    rw [← hpart]
    by_cases h : l.q < wt
    · simp [lot_ix2, hlt, h]
    · simp [lot_ix2, hlt, h]
  refine (seq_nx (set_ok step1)).trans ?_
  refine (seq_nx (set_ok step2)).trans ?_
  have e1 : dNe (eR pt) (eR l.q) = some (.bool (!decide (pt = l.q))) := by rw [dNe, eqOk_R, eR_eqv]; rfl
  have e2 : kput (kvs.map (eK eR)) (.str l.nm) (eR (wt - pt)) = (aput kvs l.nm (wt - pt)).map (eK eR) := kput_t
  by_cases h1 : 0 < pt <;> by_cases h2 : pt = l.q
  · subst h2
    simp [eR_ix0, dGt, num_pos, h1, lot_sl, dAdd, hr, lot_ix0, hm1, kOk, hkl, e2, lot_ix2, e1]
    rfl
  · simp [eR_ix0, dGt, num_pos, h1, lot_sl, dAdd, hr, lot_ix0, hm1, kOk, hkl, e2, lot_ix2, e1, h2, hm2, hr2]
    exact ⟨rfl, rfl⟩
  · subst h2
    simp [eR_ix0, dGt, num_pos, h1, lot_ix2, e1]
  · simp [eR_ix0, dGt, num_pos, h1, lot_sl, dAdd, lot_ix2, e1, h2, hm2, hr2]
    rfl
theorem aget_bound {kvs : List (Str × Rat)} {D M : Nat} (hk : ∀ q ∈ kvs, FrB D M q.2) (n : Str) : FrB D M ((aget kvs n).getD 0) := by
  cases q : aget kvs n with
  | none => exact FrB.zero
  | some r => exact hk _ (aget_mem q)
theorem take_loop {gs : List Gd} {D M : Nat} {day : Int} {v1 v2 v4 v5 : Option AV} (hD : 0 < D) (hs : M * D < 2 ^ 1000) (hs2 : D < 2 ^ 1000) : ∀ (ls : List (Lt Str)) (kvs : List (Str × Rat)) (rows rest : List (Lt Str)) (w : Str → Rat) (v9 v10 v11 : Option AV),
    (∀ l ∈ ls, HasG gs l.nm ∧ 0 < l.q ∧ FrB D M l.q) → (∀ q ∈ kvs, FrB D M q.2) → kvs.length + ls.length < 1000000 → (∀ n, w n = (aget kvs n).getD 0) → rows.length + ls.length < 1000000 → rest.length + ls.length < 1000000 →
    ∃ (kvs' : List (Str × Rat)) (v9' v10' v11' : Option AV), forA (tName 9) b_taken_l2 (ls.map eL) ⟨[some (.dat (.tuple (gs.map eG))), v1, v2, some (.dat (.int day)), v4, v5, some (.cel 0), some (.cel 1), some (.cel 2), v9, v10, v11], [.dct false (kvs.map (eK eR)), .lst (rows.map eL), .lst (rest.map eL)], 0⟩
    = .nx ⟨[some (.dat (.tuple (gs.map eG))), v1, v2, some (.dat (.int day)), v4, v5, some (.cel 0), some (.cel 1), some (.cel 2), v9', v10', v11'], [.dct false (kvs'.map (eK eR)), .lst ((rows ++ takeR (ovG gs day) ls w).map eL), .lst ((rest ++ takeL (ovG gs day) ls w).map eL)], 0⟩
  | [], kvs, rows, rest, w, v9, v10, v11, _, _, _, _, _, _ => ⟨kvs, v9, v10, v11, by
      unfold takeR takeL forA
      rw [List.append_nil, List.append_nil]
      rfl⟩
  | l :: ls, kvs, rows, rest, w, v9, v10, v11, hl, hk, hkl, hw, hr, hr2 => by
    have h0 := hl l (List.mem_cons_self ..)
    rw [List.length_cons] at hkl hr hr2
    have es := take_step (gs := gs) (l := l) (day := day) (rows := rows) (rest := rest) (v1 := v1) (v2 := v2) (v4 := v4) (v5 := v5) (v10 := v10) (v11 := v11) hD hs hs2 h0.1 h0.2.2 hk (by omega) hw (by omega) (by omega)
    have hwn : ∀ n, 0 ≤ w n := fun n => by rw [hw n]; exact (aget_bound hk n).2.1
    have hp := part_spec (ov := ovG gs day) hwn h0.2.1
    have hwl : FrB D M (wantT (ovG gs day) w l) := by
      unfold wantT
      split
      · exact FrB.zero
      · rw [hw]; exact aget_bound hk _
    have hpl : FrB D M (partT (ovG gs day) w l) := by unfold partT; split; exact h0.2.2; exact hwl
    have hk2 : ∀ q ∈ nextK (ovG gs day) kvs w l, FrB D M q.2 := by
      unfold nextK
      split
      · exact aput_all hk (FrB.sub hD hwl hpl hp.2.2.1)
      · exact hk
    have hkl2 : (nextK (ovG gs day) kvs w l).length ≤ kvs.length + 1 := by
      unfold nextK
      split
      · exact aput_len
      · omega
    have hw2 : ∀ n, nextW (ovG gs day) w l n = (aget (nextK (ovG gs day) kvs w l) n).getD 0 := by
      intro n
      unfold nextW nextK
      split
      · rw [aget_put]
        show (if n = l.nm then _ else _) = _
        split
        · rfl
        · exact hw n
      · exact hw n
    have hrl : (rowT (ovG gs day) w l).length ≤ 1 := by unfold rowT; split <;> simp
    have hrl2 : (restT (ovG gs day) w l).length ≤ 1 := by unfold restT; split <;> simp
    obtain ⟨kvs', v9', v10', v11', ih⟩ := take_loop hD hs hs2 ls (nextK (ovG gs day) kvs w l) (rows ++ rowT (ovG gs day) w l) (rest ++ restT (ovG gs day) w l) (nextW (ovG gs day) w l) (some (.dat (eL l))) (some (.dat (eR (wantT (ovG gs day) w l)))) (some (.dat (eR (partT (ovG gs day) w l)))) (v1 := v1) (v2 := v2) (v4 := v4) (v5 := v5) (day := day) (gs := gs)
      (fun m hm => hl m (List.mem_cons_of_mem _ hm)) hk2 (by omega) hw2 (by rw [List.length_append]; omega) (by rw [List.length_append]; omega)
    refine ⟨kvs', v9', v10', v11', ?_⟩
    rw [List.map_cons]
    unfold forA
    simp only [tName, Fr.setv, List.set_cons_succ, List.set_cons_zero]
    rw [es]
    simp only
    rw [ih]
    have r1 : takeR (ovG gs day) (l :: ls) w = rowT (ovG gs day) w l ++ takeR (ovG gs day) ls (nextW (ovG gs day) w l) := rfl
    have r2 : takeL (ovG gs day) (l :: ls) w = restT (ovG gs day) w l ++ takeL (ovG gs day) ls (nextW (ovG gs day) w l) := rfl
    rw [r1, r2, List.append_assoc, List.append_assoc]
/-- needs of a name -/
def wOf (ns : List (Str × Rat)) (n : Str) : Rat := (aget ns n).getD 0
theorem t_taken {gs : List Gd} {ls : List (Lt Str)} {ns : List (Str × Rat)} {D M : Nat} {day : Int} (hD : 0 < D) (hs : M * 61 * D < 2 ^ 1000) (hs2 : D < 2 ^ 1000) (hl : StO gs D M ls) (hn : NdO D M ns) (h0 : lackL (thereG gs day ls) ns = []) :
    m_taken [.dat (.tuple (gs.map eG)), .dat (.tuple (ls.map eL)), .dat (.list (ns.map eN)), .dat (.int day)] [] = .ok (.dat (.tuple [.list ((takeR (ovG gs day) ls (wOf ns)).map eL), .tuple ((takeL (ovG gs day) ls (wOf ns)).map eL)])) [] := by
  have hs3 : M * D < 2 ^ 1000 := Nat.lt_of_le_of_lt (Nat.mul_le_mul_right _ (Nat.le_mul_of_pos_right _ (by decide))) hs
  have el := t_lacking (day := day) hD hs hs2 hs3 hl hn
  rw [h0] at el
  have hll := hl.len
  have hnl := hn.len
  obtain ⟨kvs', v9, v10, v11, e⟩ := take_loop (gs := gs) (D := D) (M := M) (day := day) (v1 := some (.dat (.tuple (ls.map eL)))) (v2 := some (.dat (.list (ns.map eN)))) (v4 := none) (v5 := none) hD hs3 hs2 ls ns [] [] (wOf ns) none none none (fun l h => ⟨hl.nm l h, hl.q0 l h, hl.q l h⟩) hn.q (by omega) (fun n => rfl) (by rw [List.length_nil]; omega) (by rw [List.length_nil]; omega)
  rw [List.nil_append, List.nil_append] at e
  have hd := dict_nodup hn.nd
  unfold m_taken b_taken
  simp [el, forA, pairs_t, hd]
  simp at e
  simp [e]
end G
/-! ND: what is a whole number, a fraction, a store; wants, sums. -/
namespace G
open PySem PySem.Spec PyProof.Rows L2
open PySem.W (dataLt dataLe alike keyToks)
/-! ### of anything -/
def wholeB : PyData → Bool
  | .int _ => true
  | _ => false
theorem t_is_whole (x : PyData) : m_is_whole [.dat x] [] = .ok (.dat (.bool (wholeB x))) [] := by
  unfold m_is_whole b_is_whole
  cases x <;> simp [isi, isiN, tyN, wholeB]
def fromB (lo hi : Int) : PyData → Bool
  | .int i => decide (lo ≤ i) && decide (i ≤ hi)
  | _ => false
theorem t_is_from (x : PyData) (lo hi : Int) : m_is_from [.dat x, .dat (.int lo), .dat (.int hi)] [] = .ok (.dat (.bool (fromB lo hi x))) [] := by
  unfold m_is_from b_is_from
  cases x with
  | int i =>
    by_cases h : lo ≤ i <;> simp [t_is_whole, wholeB, dLe, fromB, h]
  | _ => simp [t_is_whole, wholeB, fromB]
def fracB : PyData → Bool
  | .tuple [.int p, .int q] => decide (0 < q) && decide (Nat.gcd p.natAbs q.natAbs = 1)
  | _ => false
theorem t_is_fraction (x : PyData) : m_is_fraction [.dat x] [] = .ok (.dat (.bool (fracB x))) [] := by
  unfold m_is_fraction b_is_fraction
  cases x with
  | tuple xs =>
    match xs with
    | [] => simp [isi, isiN, tyN, dNe, eqOk_int, eqv_int, fracB]
    | [a] => simp [isi, isiN, tyN, dNe, eqOk_int, eqv_int, fracB]
    | a :: b :: c :: r =>
      have e : ¬ ((r.length : Int) + 1 + 1 + 1 = 2) := by omega
      have f : fracB (.tuple (a :: b :: c :: r)) = false := by cases a <;> cases b <;> rfl
      simp [isi, isiN, tyN, dNe, eqOk_int, eqv_int, f, e]
    | [a, b] =>
      cases a with
      | int p =>
        cases b with
        | int q =>
          have hd := s_divisor p q
          have hf : fracB (.tuple [.int p, .int q]) = (decide (0 < q) && decide (Nat.gcd p.natAbs q.natAbs = 1)) := rfl
          rw [hf]
          by_cases h : 0 < q
          · by_cases h1 : Nat.gcd p.natAbs q.natAbs = 1
            · rw [h1] at hd
              simp [isi, isiN, tyN, dNe, eqOk_int, eqv_int, dIx, atI, ixN, t_is_whole, wholeB, dGt, h, hd, dEq, h1]
            · have h2 : ¬ (((Nat.gcd p.natAbs q.natAbs : Nat) : Int) = 1) := by omega
              simp [isi, isiN, tyN, dNe, eqOk_int, eqv_int, dIx, atI, ixN, t_is_whole, wholeB, dGt, h, hd, dEq, h1, h2]
          · simp [isi, isiN, tyN, dNe, eqOk_int, eqv_int, dIx, atI, ixN, t_is_whole, wholeB, dGt, h, fracB]
        | _ => simp [isi, isiN, tyN, dNe, eqOk_int, eqv_int, dIx, atI, ixN, t_is_whole, wholeB, fracB]
      | _ => simp [isi, isiN, tyN, dNe, eqOk_int, eqv_int, dIx, atI, ixN, t_is_whole, wholeB, fracB]
  | _ => simp [isi, isiN, tyN, fracB]
def topB : PyData → Bool
  | .tuple (.int p :: _) => decide (0 < p)
  | _ => false
def amtB (x : PyData) : Bool := fracB x && topB x
theorem fracB_of {x : PyData} (h : fracB x = true) : ∃ q : Rat, x = eR q := by
  unfold fracB at h
  split at h
  · rename_i p q
    rw [Bool.and_eq_true, decide_eq_true_eq, decide_eq_true_eq] at h
    refine ⟨⟨p, q.toNat, by omega, by rw [Nat.Coprime, ← h.2]; congr 1; omega⟩, ?_⟩
    simp only [eR]
    rw [Int.toNat_of_nonneg (by omega)]
  · cases h
theorem fracB_R (q : Rat) : fracB (eR q) = true := by
  unfold fracB eR
  simp only [Int.natAbs_natCast, Bool.and_eq_true, decide_eq_true_eq]
  exact ⟨by have := q.den_pos; omega, q.reduced⟩
theorem amtB_R' (q : Rat) : amtB (eR q) = decide (0 < q) := by
  unfold amtB
  rw [fracB_R, Bool.true_and]
  show decide (0 < q.num) = _
  rw [decide_eq_decide, num_pos]
theorem amtB_R {q : Rat} (h : 0 < q) : amtB (eR q) = true := by rw [amtB_R']; exact decide_eq_true h
theorem t_is_amount (x : PyData) : m_is_amount [.dat x] [] = .ok (.dat (.bool (amtB x))) [] := by
  unfold m_is_amount b_is_amount
  cases h : fracB x with
  | false =>
    have e : amtB x = false := by unfold amtB; rw [h]; rfl
    simp [t_is_fraction, h, e]
  | true =>
    obtain ⟨q, rfl⟩ := fracB_of h
    simp [t_is_fraction, fracB_R, eR_ix0, dGt, amtB_R', num_pos]
/-! ### rising -/
/-- each one less than the next -/
def adjB {α : Type} (lt : α → α → Bool) : List α → Bool
  | a :: b :: xs => lt a b && adjB lt (b :: xs)
  | _ => true
theorem boolsD_map {α : Type} (f : α → Bool) : ∀ xs : List α, boolsD (xs.map fun x => PyData.bool (f x)) = some (xs.map f)
  | [] => rfl
  | x :: xs => by
    rw [List.map_cons]
    unfold boolsD
    rw [boolsD_map f xs]
    rfl
theorem adj_zip {α : Type} (lt : α → α → Bool) : ∀ xs : List α, ((xs.zip (xs.drop 1)).map fun p => lt p.1 p.2).all id = adjB lt xs
  | [] => rfl
  | [a] => rfl
  | a :: b :: xs => by
    have := adj_zip lt (b :: xs)
    rw [List.drop_succ_cons, List.drop_zero] at this ⊢
    rw [List.zip_cons_cons, List.map_cons, List.all_cons, this]
    rfl
theorem cut_drop (xs : List PyData) : cutD xs (some 1) none = xs.drop 1 := by
  unfold cutD HT.sIx
  cases xs with
  | nil => rfl
  | cons x xs =>
    simp only [List.length_cons]
    rw [if_neg (by omega)]
    have : min (1 : Int).toNat (xs.length + 1) = 1 := by omega
    rw [this, List.drop_succ_cons, List.drop_zero, Nat.add_sub_cancel, List.take_length]
theorem t_is_rising {α : Type} (e : α → PyData) (lt : α → α → Bool) (xs : List α) (hl : xs.length ≤ 1000000) (h : ∀ x ∈ xs, ∀ y ∈ xs, dLt (e x) (e y) = some (.bool (lt x y))) : m_is_rising [.dat (.list (xs.map e))] [] = .ok (.dat (.bool (adjB lt xs))) [] := by
  have hz : zipD (xs.map e) ((xs.map e).drop 1) = (xs.zip (xs.drop 1)).map fun p => .tuple [e p.1, e p.2] := by
    unfold zipD
    rw [← List.map_drop, List.zip_map, List.map_map]
    rfl
  have ec := xComp_typed (own := [1, 2]) (g := tNames [1, 2]) (t := xYes) (f := b_is_rising_e1) (e := xZip (xVar 0) (xSl (xVar 0) (xSo (xC (.int 1))) (xNo))) (fr := ⟨[some (.dat (.list (xs.map e))), none, none], [], 0⟩) (fun p : α × α => .tuple [e p.1, e p.2]) (fun _ => true) (fun p => .bool (lt p.1 p.2)) (fun p => ⟨[some (.dat (.list (xs.map e))), some (.dat (e p.1)), some (.dat (e p.2))], [], 0⟩) (xs.zip (xs.drop 1))
    (by simp [dSl, seqD, cut_drop]; simpa using hz) (by rw [List.length_zip]; omega) (fun _ _ => rfl) (fun _ => rfl) (fun _ _ => rfl) (fun p hp _ => by
      have hm := List.of_mem_zip (a := p.1) (b := p.2) hp
      simp [b_is_rising_e1, h p.1 hm.1 p.2 (List.mem_of_mem_drop hm.2)])
  rw [List.filter_eq_self.mpr (fun _ _ => rfl)] at ec
  rw [List.drop_one] at ec
  have hb := boolsD_map (fun p : α × α => lt p.1 p.2) (xs.zip xs.tail)
  have ha := adj_zip lt xs
  rw [List.drop_one] at ha
  unfold m_is_rising b_is_rising
  simp [ec, dAll, hb]
  simpa using ha
theorem adj_pw {α : Type} {lt : α → α → Bool} : ∀ {xs : List α}, xs.Pairwise (fun a b => lt a b = true) → adjB lt xs = true
  | [], _ => rfl
  | [a], _ => rfl
  | a :: b :: xs, h => by
    rw [List.pairwise_cons] at h
    unfold adjB
    rw [h.1 b (List.mem_cons_self ..), adj_pw h.2]
    rfl
theorem pw_adj {α : Type} {lt : α → α → Bool} (tr : ∀ a b c, lt a b = true → lt b c = true → lt a c = true) : ∀ {xs : List α}, adjB lt xs = true → xs.Pairwise (fun a b => lt a b = true)
  | [], _ => .nil
  | [a], _ => by simp
  | a :: b :: xs, h => by
    unfold adjB at h
    rw [Bool.and_eq_true] at h
    have ih := pw_adj tr h.2
    rw [List.pairwise_cons]
    refine ⟨fun c hc => ?_, ih⟩
    rcases List.mem_cons.mp hc with rfl | hc
    · exact h.1
    · exact tr a b c h.1 ((List.pairwise_cons.mp ih).1 c hc)
/-! ### a store that is one -/
theorem dLt_key (a b : Str × Int) : dLt (.tuple [.str a.1, .int a.2]) (.tuple [.str b.1, .int b.2]) = some (.bool (keyLt a b)) := by
  have : cmpOk (.tuple [.str a.1, .int a.2]) (.tuple [.str b.1, .int b.2]) = true := by
    simp [cmpOk, alike, PySem.W.alikeAll, PyData.depth, PyData.depthAll]
  show (if cmpOk (.tuple [.str a.1, .int a.2]) (.tuple [.str b.1, .int b.2]) = true then some (PyData.bool _) else none) = _
  rw [if_pos this]
  rfl
theorem t_is_store {gs : List Gd} {ls : List (Lt Str)} (hl : ∀ l ∈ ls, HasG gs l.nm ∧ 0 ≤ l.t ∧ l.t ≤ 1000000 ∧ 0 < l.q) (hz : ls.length ≤ 60) (hr : RiseK (ls.map keyT)) : m_is_store [.dat (.tuple (gs.map eG)), .dat (.tuple (ls.map eL))] [] = .ok (.dat (.bool true)) [] := by
  have key := forA_typed (g := tName 2) (b := b_is_store_l1) eL (fun done fr => ∃ v2, fr = ⟨[some (.dat (.tuple (gs.map eG))), some (.dat (.tuple (ls.map eL))), v2], [], 0⟩) ls ⟨[some (.dat (.tuple (gs.map eG))), some (.dat (.tuple (ls.map eL))), none], [], 0⟩ ⟨none, rfl⟩ ?_
  · obtain ⟨fr', e, v2, rfl⟩ := key
    have ec := xComp_typed (own := [2]) (g := tName 2) (t := xYes) (f := b_is_store_e1) (e := xItems (xVar 1)) (fr := ⟨[some (.dat (.tuple (gs.map eG))), some (.dat (.tuple (ls.map eL))), none], [], 0⟩) eL (fun _ => true) (fun l => .tuple [.str l.nm, .int l.t]) (fun l => ⟨[some (.dat (.tuple (gs.map eG))), some (.dat (.tuple (ls.map eL))), some (.dat (eL l))], [], 0⟩) ls (by simp) (by omega) (fun _ _ => rfl) (fun _ => rfl) (fun _ _ => rfl)
      (fun l _ _ => by simp [b_is_store_e1, lot_sl])
    rw [List.filter_eq_self.mpr (fun _ _ => rfl)] at ec
    have er := t_is_rising (fun l : Lt Str => .tuple [.str l.nm, .int l.t]) (fun a b => keyLt (keyT a) (keyT b)) ls (by omega) fun a _ b _ => dLt_key (keyT a) (keyT b)
    rw [adj_pw (by unfold RiseK at hr; rw [List.pairwise_map] at hr; exact hr)] at er
    have hz2 : ¬ (60 < (ls.length : Int)) := by omega
    unfold m_is_store b_is_store
    simp [isi, isiN, tyN, dGt, hz2, e, ec, er]
  · rintro done l rest fr he ⟨v2, rfl⟩
    obtain ⟨hm, _, _⟩ := take_of he
    obtain ⟨h1, h2, h3, h4⟩ := hl l hm
    obtain ⟨g, q, _, _⟩ := h1.find
    have e := t_good_of gs l.nm
    rw [q] at e
    refine ⟨_, ⟨[some (.dat (.tuple (gs.map eG))), some (.dat (.tuple (ls.map eL))), some (.dat (eL l))], [], 0⟩, rfl, .inl ?_, _, rfl⟩
    have hf : fromB 0 1000000 (.int l.t) = true := by simp [fromB, h2, h3]
    have hlen : dLen [eL l] = some (.int 3) := rfl
    have hty : isi "tuple" (eL l) = true := rfl
    have hst : isi "str" (.str l.nm) = true := rfl
    have hgn : isNonB (eG g) = false := rfl
    simp [b_is_store_l1, hty, -dLen, hlen, dNe, eqOk_int, eqv_int, lot_ix0, hst, e, dIsN, hgn, lot_ix1, lot_ix2, t_is_from, hf, t_is_amount, amtB_R h4]
end G
/-! NE: wants, sums; law k53. -/
namespace G
open PySem PySem.Spec PyProof.Rows L2
open PySem.W (dataLt dataLe alike keyToks)
/-! ### wants -/
theorem t_oneT {α : Type} {e : α → PyData} {n : Nat} {d : Dk} {xs : List α} (h : d.ok (n + 1)) (hx : 0 < xs.length) (hx2 : xs.length < 2147483648) : ∃ x d', m__law_one [.cel 0, .dat (.tuple (xs.map e))] [.lst d.l] = .ok (.dat (e x)) [.lst (Dk.l d')] ∧ d'.ok n ∧ x ∈ xs := by
  obtain ⟨y, d', h1, h2, h3⟩ := s_oneT (xs := xs.map e) h (by simpa using hx) (by simpa using hx2)
  obtain ⟨x, hx3, rfl⟩ := List.mem_map.mp h3
  exact ⟨x, d', h1, h2, hx3⟩
theorem t_one {α : Type} {e : α → PyData} {n : Nat} {d : Dk} {xs : List α} (h : d.ok (n + 1)) (hx : 0 < xs.length) (hx2 : xs.length < 2147483648) : ∃ x d', m__law_one [.cel 0, .dat (.list (xs.map e))] [.lst d.l] = .ok (.dat (e x)) [.lst (Dk.l d')] ∧ d'.ok n ∧ x ∈ xs := by
  obtain ⟨y, d', h1, h2, h3⟩ := s_one (xs := xs.map e) h (by simpa using hx) (by simpa using hx2)
  obtain ⟨x, hx3, rfl⟩ := List.mem_map.mp h3
  exact ⟨x, d', h1, h2, hx3⟩
theorem t_amount {n : Nat} {d : Dk} (h : d.ok (n + 2)) : ∃ (q : Rat) (d' : Dk), m__law_amount [.cel 0] [.lst d.l] = .ok (.dat (eR q)) [.lst (Dk.l d')] ∧ d'.ok n ∧ 0 < q ∧ FrB 420 40 q := by
  obtain ⟨x, d', h1, h2, h3⟩ := s_amount h
  obtain ⟨q, rfl, h4, h5⟩ := amt_of x h3
  exact ⟨q, d', h1, h2, h4, h5⟩
theorem gd_ix0 (g : Gd) : dIx (eG g) (.int 0) = some (.str g.nm) := by simp [eG, dIx, atI, ixN]
theorem t_wants {n : Nat} {d : Dk} {gs : List Gd} (h : d.ok (n + 10)) (h0 : 0 < gs.length) (h6 : gs.length ≤ 6) : ∃ (ns : List (Str × Rat)) (d' : Dk), m__law_wants [.cel 0, .dat (.tuple (gs.map eG))] [.lst d.l] = .ok (.dat (.list (ns.map eN))) [.lst (Dk.l d')] ∧ d'.ok n ∧ NdO 420 40 ns ∧ (∀ q ∈ ns, HasG gs q.1) ∧ ns.length ≤ 3 ∧ srtT eN ns = ns := by
  obtain ⟨v, d1, e1, h1, v0, v1⟩ := s_pick (n := n + 9) h (k := 3) (by decide) (by decide)
  have key := forA_all (g := tName 3) (b := b__law_wants_l1) (fun done fr => ∃ (d' : Dk) (kvs : List (Str × Rat)) (v3 : Option AV), fr = ⟨[some (.cel 0), some (.dat (.tuple (gs.map eG))), some (.cel 1), v3], [.lst d'.l, .dct false (kvs.map (eK eR))], 1⟩ ∧ d'.ok (n + 3 * (3 - done.length)) ∧ (∀ q ∈ kvs, 0 < q.2 ∧ FrB 420 40 q.2 ∧ HasG gs q.1) ∧ (kvs.map (·.1)).Nodup ∧ kvs.length ≤ done.length)
    (rangeD 0 (1 + v).toNat) ⟨[some (.cel 0), some (.dat (.tuple (gs.map eG))), some (.cel 1), none], [.lst d1.l, .dct false []], 1⟩ ⟨d1, [], none, rfl, h1, (fun q hq => nomatch hq), .nil, Nat.le_refl _⟩ ?_
  · obtain ⟨fr', e, d', kvs, v3, rfl, h3, h4, h5, h7⟩ := key
    rw [rangeD_len] at h3 h7
    have pm := srtT_perm eN kvs
    have hle : kvs.length ≤ 3 := by omega
    have es := srtd_items (kvs := kvs) (by omega)
    have hin : ∀ q ∈ srtT eN kvs, 0 < q.2 ∧ FrB 420 40 q.2 ∧ HasG gs q.1 := fun q hq => h4 q (pm.mem_iff.mp hq)
    refine ⟨srtT eN kvs, d', ?_, h3.less (by omega), ⟨fun q hq => (hin q hq).1, fun q hq => (hin q hq).2.1, by rw [pm.length_eq]; omega, (pm.map _).nodup_iff.mpr h5⟩, fun q hq => (hin q hq).2.2, by rw [pm.length_eq]; omega, ?_⟩
    · have rg : rgOk (1 + v) = true := by unfold rgOk; exact decide_eq_true (by omega)
      unfold m__law_wants b__law_wants
      simp [e1, dAdd, rg, e, es]
    · unfold srtT
      refine List.mergeSort_of_pairwise ?_
      have := srt_pw (kvs.map eN)
      rw [srtT_map, List.pairwise_map] at this
      exact this
  · rintro done y rest fr hy ⟨d', kvs, v3, rfl, hd, hs, nd, hl⟩
    have hlen : done.length < 3 := by
      have := congrArg List.length hy
      rw [rangeD_len] at this
      simp at this; omega
    obtain ⟨m, hm7⟩ : ∃ m, n + 3 * (3 - done.length) = n + 3 * (3 - (done ++ [y]).length) + 3 ∧ m = 0 := ⟨0, by simp; omega, rfl⟩
    rw [hm7.1] at hd
    generalize hq7 : n + 3 * (3 - (done ++ [y]).length) = q at *
    obtain ⟨x, d2, e2, g2, x0, xq⟩ := t_amount (n := q + 1) hd
    obtain ⟨g, d3, e3, g3, hg⟩ := t_oneT (e := eG) (n := q) (xs := gs) g2 h0 (by omega)
    have kl : kvs.length < 1000000 := by omega
    have ek : kput (kvs.map (eK eR)) (.str g.nm) (eR x) = (aput kvs g.nm x).map (eK eR) := kput_t
    refine ⟨_, ⟨[some (.cel 0), some (.dat (.tuple (gs.map eG))), some (.cel 1), none], [.lst d3.l, .dct false ((aput kvs g.nm x).map (eK eR))], 1⟩, rfl, .inl ?_, d3, _, none, rfl, g3, aput_all hs ⟨x0, xq, g, hg, rfl⟩, aput_nodup nd, ?_⟩
    · simp [b__law_wants_l1, e2, e3, gd_ix0, kOk, kl, ek]
    · have := aput_len (kvs := kvs) (n := g.nm) (v := x)
      simp; omega
/-! ### sums -/
section
variable {α : Type} (nm : α → Str) (q : α → Rat)
def sumN (xs : List α) (n : Str) : Rat := ((xs.filter fun x => nm x == n).map q).sum
def sumsA (xs : List α) : List (Str × Rat) := xs.foldl (fun a x => aput a (nm x) ((aget a (nm x)).getD 0 + q x)) []
theorem sumsA_snoc (xs : List α) (x : α) : sumsA nm q (xs ++ [x]) = aput (sumsA nm q xs) (nm x) ((aget (sumsA nm q xs) (nm x)).getD 0 + q x) := by
  unfold sumsA; rw [List.foldl_append]; rfl
theorem sumN_snoc (xs : List α) (x : α) (n : Str) : sumN nm q (xs ++ [x]) n = sumN nm q xs n + (if nm x = n then q x else 0) := by
  unfold sumN
  rw [List.filter_append, List.map_append, List.sum_append]
  congr 1
  by_cases h : nm x = n
  · rw [if_pos h, List.filter_cons_of_pos (by simpa using h)]; simp; grind
  · rw [if_neg h, List.filter_cons_of_neg (by simpa using h)]; simp
theorem snoc_ind {β : Type} {P : List β → Prop} (h0 : P []) (hs : ∀ xs x, P xs → P (xs ++ [x])) : ∀ xs, P xs := by
  intro xs
  have : ∀ ys : List β, P ys.reverse := by
    intro ys
    induction ys with
    | nil => exact h0
    | cons y ys ih => rw [List.reverse_cons]; exact hs _ _ ih
  have h := this xs.reverse
  rwa [List.reverse_reverse] at h
theorem sumsA_nodup (xs : List α) : ((sumsA nm q xs).map (·.1)).Nodup := by
  refine snoc_ind (P := fun xs => ((sumsA nm q xs).map (·.1)).Nodup) .nil (fun xs x ih => ?_) xs
  rw [sumsA_snoc]
  exact aput_nodup ih
theorem sumsA_get (xs : List α) (n : Str) : aget (sumsA nm q xs) n = if (xs.any fun x => nm x == n) = true then some (sumN nm q xs n) else none := by
  refine snoc_ind (P := fun xs => ∀ n, aget (sumsA nm q xs) n = if (xs.any fun x => nm x == n) = true then some (sumN nm q xs n) else none) (fun n => rfl) (fun xs x ih n => ?_) xs n
  rw [sumsA_snoc, aget_put, sumN_snoc, List.any_append, ih (nm x), ih n]
  by_cases h : n = nm x
  · subst h
    rw [if_pos rfl, if_pos rfl]
    have hn : ([x].any fun y => nm y == nm x) = true := by simp
    rw [hn, Bool.or_true, if_pos rfl]
    split
    · rfl
    · rename_i h2
      have : sumN nm q xs (nm x) = 0 := by
        unfold sumN
        have : (xs.filter fun y => nm y == nm x) = [] := List.filter_eq_nil_iff.mpr fun y hy e => h2 (List.any_eq_true.mpr ⟨y, hy, e⟩)
        rw [this]; rfl
      rw [this]; rfl
  · rw [if_neg h]
    have hn : ([x].any fun y => nm y == n) = false := by simp [Ne.symm h]
    rw [hn, Bool.or_false, if_neg (Ne.symm h)]
    split
    · congr 1; grind
    · rfl
theorem sumN_bound {D M : Nat} (hD : 0 < D) (n : Str) : ∀ {xs : List α}, (∀ x ∈ xs, FrB D M (q x)) → FrB D (M * xs.length) (sumN nm q xs n) := by
  intro xs
  refine snoc_ind (P := fun xs => (∀ x ∈ xs, FrB D M (q x)) → FrB D (M * xs.length) (sumN nm q xs n)) (fun _ => FrB.zero) (fun xs x ih h => ?_) xs
  rw [sumN_snoc, List.length_append]
  refine FrB.add hD (ih fun y hy => h y (by simp [hy])) ?_
  split
  · exact h x (by simp)
  · exact FrB.zero
theorem sumsA_len (xs : List α) : (sumsA nm q xs).length ≤ xs.length := by
  refine snoc_ind (P := fun xs => (sumsA nm q xs).length ≤ xs.length) (Nat.le_refl _) (fun xs x ih => ?_) xs
  rw [sumsA_snoc, List.length_append]
  have := aput_len (kvs := sumsA nm q xs) (n := nm x) (v := (aget (sumsA nm q xs) (nm x)).getD 0 + q x)
  simp; omega
theorem t_sums {e : α → PyData} {xs : List α} {D M : Nat} {y : PyData} (hy : y = .list (xs.map e) ∨ y = .tuple (xs.map e)) (hD : 0 < D) (hl : xs.length ≤ 1000) (hs : M * 1000 * D < 2 ^ 1000) (hs2 : D < 2 ^ 1000) (h0 : ∀ x, dIx (e x) (.int 0) = some (.str (nm x))) (h1 : ∀ x, dIx (e x) (.int (-1)) = some (eR (q x))) (hq : ∀ x ∈ xs, FrB D M (q x)) :
    m__law_sums [.dat y] [] = .ok (.dct false ((sumsA nm q xs).map (eK eR))) [] := by
  have key := forA_typed (g := tName 2) (b := b__law_sums_l1) e (fun done fr => ∃ v2, fr = ⟨[some (.dat y), some (.cel 0), v2], [.dct false ((sumsA nm q done).map (eK eR))], 0⟩) xs ⟨[some (.dat y), some (.cel 0), none], [.dct false []], 0⟩ ⟨none, rfl⟩ ?_
  · obtain ⟨fr', ef, v2, rfl⟩ := key
    unfold m__law_sums b__law_sums
    rcases hy with rfl | rfl <;> simp [ef]
  · rintro done x rest fr he ⟨v2, rfl⟩
    obtain ⟨hm, hd, hlen⟩ := take_of he
    refine ⟨_, ⟨[some (.dat y), some (.cel 0), some (.dat (e x))], [.dct false ((sumsA nm q (done ++ [x])).map (eK eR))], 0⟩, rfl, .inl ?_, _, rfl⟩
    have hg : (kfind ((sumsA nm q done).map (eK eR)) (.str (nm x))).getD (.tuple [.int 0, .int 1]) = eR ((aget (sumsA nm q done) (nm x)).getD 0) := by
      rw [kfind_t]
      cases aget (sumsA nm q done) (nm x) <;> rfl
    have hb : FrB D (M * 1000) ((aget (sumsA nm q done) (nm x)).getD 0) := by
      rw [sumsA_get]
      split
      · exact (sumN_bound nm q hD (nm x) fun z hz => hq z (hd z hz)).up (Nat.mul_le_mul_left _ (by omega))
      · exact FrB.zero
    have hb2 : FrB D (M * 1000) (q x) := (hq x hm).up (Nat.le_mul_of_pos_right _ (by decide))
    have hp := s_lplus (hb.sm hD hs hs2) (hb2.sm hD hs hs2)
    have ek : kput ((sumsA nm q done).map (eK eR)) (.str (nm x)) (eR ((aget (sumsA nm q done) (nm x)).getD 0 + q x)) = (sumsA nm q (done ++ [x])).map (eK eR) := by rw [sumsA_snoc]; exact kput_t
    have kl : (sumsA nm q done).length < 1000000 := by
      have := sumsA_len nm q done
      omega
    simp [b__law_sums_l1, h0, h1, dNeg, kOk, hg, hp, kl, ek]
end
end G
/-! PA: lots taken name by name (laws k52, k54). -/
namespace G
open PySem PySem.Spec PyProof.Rows L2

def b__law_minus : Fr → SRes :=
  sRet (xCall m__law_frac (xCons (xOp2 dSub (xOp2 dMul (xIx (xVar 0) (xC (.int 0))) (xIx (xVar 1) (xC (.int 1)))) (xOp2 dMul (xIx (xVar 1) (xC (.int 0))) (xIx (xVar 0) (xC (.int 1))))) (xCons (xOp2 dMul (xIx (xVar 0) (xC (.int 1))) (xIx (xVar 1) (xC (.int 1)))) (xNil))))
def m__law_minus : AFun := mkFun 2 2 b__law_minus

def b__law_below : Fr → SRes :=
  sRet (xOp2 dLt (xOp2 dMul (xIx (xVar 0) (xC (.int 0))) (xIx (xVar 1) (xC (.int 1)))) (xOp2 dMul (xIx (xVar 1) (xC (.int 0))) (xIx (xVar 0) (xC (.int 1)))))
def m__law_below : AFun := mkFun 2 2 b__law_below

def b__law_taken_t1 : Fr → Res Bool :=
  xAnd (xB (xOp2 dEq (xIx (xVar 12) (xC (.int 0))) (xVar 6))) (xNot (xB (xCall m__law_is_over (xCons (xVar 0) (xCons (xVar 12) (xCons (xVar 3) (xNil)))))))
def b__law_taken_e1 : Fr → Res AV :=
  xVar 12
def b__law_taken_l1 : Fr → SRes :=
  sKill [9, 10, 11] (sIf (xB (xOp2 dGt (xIx (xVar 7) (xC (.int 0))) (xC (.int 0)))) (sSeq (sSet 9 (xIf (xB (xCall m__law_below (xCons (xIx (xVar 8) (xC (.int 2))) (xCons (xVar 7) (xNil))))) (xIx (xVar 8) (xC (.int 2))) (xVar 7)))
  (sSeq (sApp 4 (xOp2 dAdd (xSl (xVar 8) (xNo) (xSo (xC (.int 2)))) (xTup (xCons (xVar 9) (xNil)))))
  (sSeq (sSet 10 (xCall m__law_minus (xCons (xIx (xVar 8) (xC (.int 2))) (xCons (xVar 9) (xNil)))))
  (sSeq (sSet 11 (xIdx 5 (xVar 8)))
  (sSeq (sSlSet 5 (xVar 11) (xOp2 dAdd (xVar 11) (xC (.int 1))) (xIf (xB (xOp2 dGt (xIx (xVar 10) (xC (.int 0))) (xC (.int 0)))) (xLst (xCons (xOp2 dAdd (xSl (xVar 8) (xNo) (xSo (xC (.int 2)))) (xTup (xCons (xVar 10) (xNil)))) (xNil))) (xLst (xNil))))
  (sSet 7 (xCall m__law_minus (xCons (xVar 7) (xCons (xVar 9) (xNil)))))))))) (sNx))
def b__law_taken_l2 : Fr → SRes :=
  sKill [8, 9, 10, 11] (sSeq (sFor (xItems (xComp [12] (xItems (xVar 1)) (tName 12) (b__law_taken_t1) (b__law_taken_e1))) (tName 8) (b__law_taken_l1))
  (sKill [8, 9, 10, 11] (sIf (xB (xOp2 dGt (xIx (xVar 7) (xC (.int 0))) (xC (.int 0)))) (sRet (xLst (xCons (xVar 6) (xCons (xVar 7) (xNil))))) (sNx))))
def b__law_taken : Fr → SRes :=
  sSeq (sPar 4 5 (xCons (xNewL (xNil)) (xCons (xListF (xVar 1)) (xNil))))
  (sSeq (sFor (xItems (xVar 2)) (tNames [6, 7]) (b__law_taken_l2))
  (sKill [6, 7, 8, 9, 10, 11] (sRet (xTup (xCons (xC (.str "told")) (xCons (xTup (xCons (xB1 dSorted (xCons (xVar 4) (xNil))) (xCons (xB1 dTuple (xCons (xVar 5) (xNil))) (xNil)))) (xNil)))))))
def m__law_taken : AFun := mkFun 13 4 b__law_taken

def b__law_lacks_l1 : Fr → SRes :=
  sIf (xAnd (xB (xOp2 dEq (xIx (xVar 8) (xC (.int 0))) (xVar 5))) (xNot (xB (xCall m__law_is_over (xCons (xVar 0) (xCons (xVar 8) (xCons (xVar 3) (xNil)))))))) (sSet 7 (xCall m__law_plus (xCons (xVar 7) (xCons (xIx (xVar 8) (xC (.int 2))) (xNil))))) (sNx)
def b__law_lacks_l2 : Fr → SRes :=
  sKill [7, 8] (sSeq (sSet 7 (xTup (xCons (xC (.int 0)) (xCons (xC (.int 1)) (xNil)))))
  (sSeq (sFor (xItems (xVar 1)) (tName 8) (b__law_lacks_l1))
  (sKill [8] (sIf (xB (xCall m__law_below (xCons (xVar 7) (xCons (xVar 6) (xNil))))) (sApp 4 (xTup (xCons (xVar 5) (xCons (xCall m__law_minus (xCons (xVar 6) (xCons (xVar 7) (xNil)))) (xNil))))) (sNx)))))
def b__law_lacks : Fr → SRes :=
  sSeq (sSet 4 (xNewL (xNil)))
  (sSeq (sFor (xItems (xVar 2)) (tNames [5, 6]) (b__law_lacks_l2))
  (sKill [5, 6, 7, 8] (sRet (xVar 4))))
def m__law_lacks : AFun := mkFun 9 4 b__law_lacks


/-! ### plain mathematics: one name more -/
section
variable {ov : Lt Str → Bool} {w : Str → Rat} {l : Lt Str} {n : Str} {g : Rat}
theorem want_upf (h : ¬ (l.nm = n ∧ ov l = false)) : wantT ov (upf w n g) l = wantT ov w l := by
  unfold wantT upf
  cases q : ov l with
  | true => simp
  | false =>
    have : l.nm ≠ n := fun e => h ⟨e, q⟩
    simp [this]
theorem part_upf (h : ¬ (l.nm = n ∧ ov l = false)) : partT ov (upf w n g) l = partT ov w l := by unfold partT; rw [want_upf h]
theorem row_upf (h : ¬ (l.nm = n ∧ ov l = false)) : rowT ov (upf w n g) l = rowT ov w l := by unfold rowT; rw [part_upf h]
theorem rest_upf (h : ¬ (l.nm = n ∧ ov l = false)) : restT ov (upf w n g) l = restT ov w l := by unfold restT; rw [part_upf h]
theorem next_upf (hq : 0 < l.q) (h : ¬ (l.nm = n ∧ ov l = false)) : nextW ov (upf w n g) l = upf (nextW ov w l) n g := by
  unfold nextW
  rw [part_upf h, want_upf h]
  by_cases hp : 0 < partT ov w l
  · rw [if_pos hp, if_pos hp]
    have ho : ov l = false := by
      cases q : ov l with
      | false => rfl
      | true =>
        unfold partT wantT at hp
        rw [q] at hp
        simp only [if_true] at hp
        split at hp <;> grind
    have hne : l.nm ≠ n := fun e => h ⟨e, ho⟩
    funext m
    unfold upf
    by_cases e1 : m = l.nm
    · subst e1; simp [hne]
    · simp [e1]
  · rw [if_neg hp, if_neg hp]
theorem next_other (hne : l.nm ≠ n) : nextW ov w l n = w n := by
  unfold nextW
  split
  · unfold upf; rw [if_neg (Ne.symm hne)]
  · rfl
theorem part_zero (hq : 0 < l.q) (hw : wantT ov w l = 0) : partT ov w l = 0 := by
  unfold partT
  rw [hw, if_neg (by grind)]
theorem lot_same (l : Lt Str) : (⟨l.nm, l.t, l.q - 0⟩ : Lt Str) = l := by
  have : l.q - 0 = l.q := by grind
  rw [this]
theorem at_zero (hq : 0 < l.q) (hw : wantT ov w l = 0) : restT ov w l = [l] ∧ rowT ov w l = [] ∧ nextW ov w l = w := by
  have p := part_zero hq hw
  refine ⟨?_, ?_, ?_⟩
  · unfold restT
    rw [p, if_pos (by grind), lot_same]
  · unfold rowT
    rw [p, if_neg (by grind)]
  · unfold nextW
    rw [p, if_neg (by grind)]
theorem take_none {ls : List (Lt Str)} (hq : ∀ l ∈ ls, 0 < l.q) : takeL ov ls (fun _ => 0) = ls ∧ takeR ov ls (fun _ => 0) = [] := by
  induction ls with
  | nil => exact ⟨rfl, rfl⟩
  | cons l ls ih =>
    obtain ⟨a, b⟩ := ih fun m hm => hq m (List.mem_cons_of_mem _ hm)
    obtain ⟨h1, h2, h3⟩ := at_zero (ov := ov) (w := fun _ => 0) (hq l (List.mem_cons_self ..)) (by unfold wantT; split <;> rfl)
    unfold takeL takeR
    rw [h1, h2, h3, a, b]
    exact ⟨rfl, rfl⟩
end
theorem idx_at {α : Type} {p : α → Bool} {y : α} : ∀ {L R : List α}, (∀ x ∈ L, p x = false) → p y = true → (L ++ y :: R).findIdx? p = some L.length
  | [], R, _, h => by simp [List.findIdx?_cons, h]
  | x :: L, R, h, hy => by
    have := idx_at (L := L) (R := R) (fun z hz => h z (List.mem_cons_of_mem _ hz)) hy
    simp [List.findIdx?_cons, h x (List.mem_cons_self ..), this]
/-! ### the rests of the law's own reckoning -/
theorem s_lminus {a b : Rat} (ha : Sm a) (hb : Sm b) : m__law_minus [.dat (eR a), .dat (eR b)] [] = .ok (.dat (eR (a - b))) [] := by
  have e := s_frac' (a.num * b.den - b.num * a.den) (a.den * b.den) (Nat.mul_pos a.den_pos b.den_pos) (two_thousand ha.1 hb.1)
  rw [Int.natCast_mul, ← Rat.sub_def'] at e
  unfold m__law_minus b__law_minus
  simp [eR, dIx, atI, ixN, dMul, ha.m1 hb, hb.m1 ha, ha.m2 hb, dSub] at e ⊢
  simp [e]
theorem s_lbelow {a b : Rat} (ha : Sm a) (hb : Sm b) : m__law_below [.dat (eR a), .dat (eR b)] [] = .ok (.dat (.bool (decide (a < b)))) [] := by
  unfold m__law_below b__law_below
  simp [eR, dIx, atI, ixN, dMul, ha.m1 hb, hb.m1 ha, dLt, Rat.lt_iff]

/-! ### the law's taking, in frames -/
abbrev frT (gd st wa : PyData) (day : Int) (R L : List (Lt Str)) (n : Str) (g : Rat) (v8 v9 v10 v11 : Option AV) : Fr := ⟨[some (.dat gd), some (.dat st), some (.dat wa), some (.dat (.int day)), some (.cel 0), some (.cel 1), some (.dat (.str n)), some (.dat (eR g)), v8, v9, v10, v11, none], [.lst (R.map eL), .lst (L.map eL)], 0⟩
theorem eL_eqv2 (a b : Lt Str) : PyData.eqv (eL a) (eL b) = decide (a.nm = b.nm ∧ a.t = b.t ∧ a.q = b.q) := by
  show ((a.nm == b.nm) && ((a.t == b.t) && (PyData.eqv (eR a.q) (eR b.q) && true))) = _
  rw [eR_eqv, Bool.and_true, Bool.beq_eq_decide_eq, Bool.beq_eq_decide_eq, ← Bool.decide_and, ← Bool.decide_and]
theorem eL_depth2 (l : Lt Str) : (eL l).depth ≤ 2 := by simp [eL, eR, PyData.depth, PyData.depthAll]
theorem lt_idx {L T : List (Lt Str)} {l : Lt Str} (h : ∀ x ∈ L, keyT x ≠ keyT l) : dIdx ((L ++ l :: T).map eL) (eL l) = some L.length := by
  unfold dIdx
  have h1 : inOk (eL l) ((L ++ l :: T).map eL) = true := by
    unfold inOk
    refine decide_eq_true ?_
    have := eL_depth2 l
    omega
  rw [if_pos h1, List.map_append, List.map_cons, idx_at (p := fun z => PyData.eqv z (eL l)) (L := L.map eL) (y := eL l) (R := T.map eL) ?_ ?_, List.length_map]
  · intro x hx
    obtain ⟨m, hm, rfl⟩ := List.mem_map.mp hx
    show PyData.eqv (eL m) (eL l) = false
    rw [eL_eqv2]
    refine decide_eq_false fun e => h m hm ?_
    unfold keyT
    rw [e.1, e.2.1]
  · show PyData.eqv (eL l) (eL l) = true
    rw [eL_eqv2]; simp
theorem lt_step {gd st wa : PyData} {day : Int} {D M : Nat} {R L T : List (Lt Str)} {l : Lt Str} {n : Str} {g p : Rat} {v9 v10 v11 : Option AV} (hD : 0 < D) (hs : M * D < 2 ^ 1000) (hs2 : D < 2 ^ 1000) (hg : 0 < g) (hgb : FrB D M g) (hq : 0 < l.q) (hqb : FrB D M l.q) (hk : ∀ x ∈ L, keyT x ≠ keyT l) (hR : R.length < 1000000) (hL : L.length + T.length < 100000)
    (hp : p = if l.q < g then l.q else g) :
    b__law_taken_l1 (frT gd st wa day R (L ++ l :: T) n g (some (.dat (eL l))) v9 v10 v11) = .nx (frT gd st wa day (R ++ [⟨l.nm, l.t, p⟩]) (L ++ (if p ≠ l.q then [⟨l.nm, l.t, l.q - p⟩] else []) ++ T) n (g - p) (some (.dat (eL l))) (some (.dat (eR p))) (some (.dat (eR (l.q - p)))) (some (.dat (.int (L.length : Nat))))) := by
  have hpb : FrB D M p := by rw [hp]; split <;> assumption
  have hpq : p ≤ l.q := by rw [hp]; split <;> grind
  have s1 := hqb.sm hD hs hs2
  have s2 := hgb.sm hD hs hs2
  have s3 := hpb.sm hD hs hs2
  have hlt := s_lbelow s1 s2
  have hm1 := s_lminus s1 s3
  have hm2 := s_lminus s2 s3
  have hix := lt_idx (T := T) hk
  have hpart : (if l.q < g then eR l.q else eR g) = eR p := by
    rw [hp]
    split <;> rfl
  have step : xIf (xB (xCall m__law_below (xCons (xIx (xVar 8) (xC (.int 2))) (xCons (xVar 7) (xNil))))) (xIx (xVar 8) (xC (.int 2))) (xVar 7) (frT gd st wa day R (L ++ l :: T) n g (some (.dat (eL l))) none none none) = .ok (.dat (eR p)) (frT gd st wa day R (L ++ l :: T) n g (some (.dat (eL l))) none none none) := by
    rw [← hpart]
    by_cases h : l.q < g
    · simp [lot_ix2, hlt, h]
    · simp [lot_ix2, hlt, h]
  generalize hLT : L ++ l :: T = LT at *
  have tk : (LT.map eL).take L.length = L.map eL := by rw [← hLT]; simp
  have dp : (LT.map eL).drop (L.length + 1) = T.map eL := by rw [← hLT]; simp [List.drop_append]
  have ll : (LT.map eL).length = L.length + T.length + 1 := by rw [← hLT]; simp; omega
  have hrest : (0 < l.q - p) ↔ p ≠ l.q := by constructor <;> intro h <;> grind
  unfold b__law_taken_l1
  have t1 : (xB (xOp2 dGt (xIx (xVar 7) (xC (.int 0))) (xC (.int 0)))) (frT gd st wa day R LT n g (some (.dat (eL l))) none none none) = .ok true (frT gd st wa day R LT n g (some (.dat (eL l))) none none none) := by
    simp [eR_ix0, dGt, num_pos, hg]
  show sIf _ _ _ (frT gd st wa day R LT n g (some (.dat (eL l))) none none none) = _
  rw [if_ok t1, if_pos rfl]
  refine (seq_nx (set_ok step)).trans ?_
  have sl : (L.length : Int).toNat = L.length := by omega
  have sl2 : ((L.length : Int) + 1).toNat = L.length + 1 := by omega
  have z1 : (L.length : Int) + 1 ≤ L.length + T.length + 1 := by omega
  have z2 : L.length + T.length + 1 + 1 ≤ 1000000 := by omega
  by_cases h2 : p = l.q
  · have hn : ¬ 0 < l.q - p := fun h => hrest.mp h h2
    simp [lot_sl, dAdd, hR, lot_ix2, hm1, hm2, hix, eR_ix0, dGt, num_pos, hn, tk, dp, ll]
    rw [if_pos ⟨by omega, by omega, by omega⟩]
    simp only [if_pos h2]
    simp [hm2, eL]
  · have hn : 0 < l.q - p := hrest.mpr h2
    simp [lot_sl, dAdd, hR, lot_ix2, hm1, hm2, hix, eR_ix0, dGt, num_pos, hn, tk, dp, ll]
    rw [if_pos ⟨by omega, by omega, by omega⟩]
    simp only [if_neg h2]
    simp [hm2, eL]

/-- the lots of one name, one after another -/
theorem lt_in {gd st wa : PyData} {gs : List Gd} {day : Int} {D M : Nat} {n : Str} (hD : 0 < D) (hs : M * D < 2 ^ 1000) (hs2 : D < 2 ^ 1000) : ∀ (ls L R : List (Lt Str)) (w : Str → Rat) (g : Rat) (v8 v9 v10 v11 : Option AV), w n = 0 → 0 ≤ g → FrB D M g → (∀ l ∈ ls, 0 < l.q ∧ FrB D M l.q) →
    (ls.Pairwise fun a b => keyT a ≠ keyT b) → (∀ x ∈ L, ∀ l ∈ ls, keyT x ≠ keyT l) → R.length + ls.length < 1000000 → L.length + ls.length < 100000 →
    ∃ (rN : List (Lt Str)) (v8' v9' v10' v11' : Option AV), forA (tName 8) b__law_taken_l1 ((ls.filter fun l => l.nm == n && !ovG gs day l).map eL) (frT gd st wa day R (L ++ takeL (ovG gs day) ls w) n g v8 v9 v10 v11) = .nx (frT gd st wa day (R ++ rN) (L ++ takeL (ovG gs day) ls (upf w n g)) n (if g ≤ avail (ovG gs day) ls n then 0 else g - avail (ovG gs day) ls n) v8' v9' v10' v11') ∧
      (takeR (ovG gs day) ls (upf w n g)).Perm (takeR (ovG gs day) ls w ++ rN) ∧ rN.length ≤ ls.length
  | [], L, R, w, g, v8, v9, v10, v11, hw, hg, _, _, _, _, _, _ => by
    refine ⟨[], v8, v9, v10, v11, ?_, .refl _, Nat.le_refl _⟩
    have e : (if g ≤ avail (ovG gs day) [] n then (0 : Rat) else g - avail (ovG gs day) [] n) = g := by
      have : avail (ovG gs day) [] n = 0 := rfl
      rw [this]
      split <;> grind
    rw [e]
    simp [forA, takeL]
  | l :: ls, L, R, w, g, v8, v9, v10, v11, hw, hg, hgb, hl, hk, hLk, hR, hL => by
    have h0 := hl l (List.mem_cons_self ..)
    have hl' : ∀ m ∈ ls, 0 < m.q ∧ FrB D M m.q := fun m hm => hl m (List.mem_cons_of_mem _ hm)
    obtain ⟨hk1, hk2⟩ := List.pairwise_cons.mp hk
    have av : avail (ovG gs day) (l :: ls) n = (if l.nm = n ∧ ovG gs day l = false then l.q else 0) + avail (ovG gs day) ls n := by
      unfold avail
      rw [List.filter_cons]
      cases q : ovG gs day l with
      | true => simp; grind
      | false => simp [sumOf_cons]
    have hav : 0 ≤ avail (ovG gs day) ls n := avail_nn (fun m hm => (hl' m hm).1) n
    simp only [List.length_cons] at hR hL
    by_cases hin : l.nm = n ∧ ovG gs day l = false
    · -- a lot to be taken of
      have hwz : wantT (ovG gs day) w l = 0 := by unfold wantT; rw [hin.2, hin.1, hw]; rfl
      obtain ⟨r1, r2, r3⟩ := at_zero h0.1 hwz
      have eT : takeL (ovG gs day) (l :: ls) w = l :: takeL (ovG gs day) ls w := by
        show restT _ _ _ ++ takeL _ _ _ = _
        rw [r1, r3]; rfl
      have eR0 : takeR (ovG gs day) (l :: ls) w = takeR (ovG gs day) ls w := by
        show rowT _ _ _ ++ takeR _ _ _ = _
        rw [r2, r3]; rfl
      have ef : (l :: ls).filter (fun l => l.nm == n && !ovG gs day l) = l :: ls.filter (fun l => l.nm == n && !ovG gs day l) := by
        rw [List.filter_cons_of_pos (by simp [hin.1, hin.2])]
      rw [av, if_pos hin, eT, eR0, ef]
      have hLk' : ∀ x ∈ L, keyT x ≠ keyT l := fun x hx => hLk x hx l (List.mem_cons_self ..)
      have hlen : (takeL (ovG gs day) ls w).length ≤ ls.length := by
        have := (@rest_sub _ _ (ovG gs day) w ls).length_le
        simpa using this
      by_cases hgp : 0 < g
      · -- something is wanted still
        obtain ⟨p, hp⟩ : ∃ p, p = if l.q < g then l.q else g := ⟨_, rfl⟩
        have hws : wantT (ovG gs day) (upf w n g) l = g := by unfold wantT upf; rw [hin.2, hin.1]; simp
        have hps : partT (ovG gs day) (upf w n g) l = p := by unfold partT; rw [hws, hp]
        have hp0 : 0 < p := by
          rw [hp]
          split
          · exact h0.1
          · exact hgp
        have hpq : p ≤ l.q := by rw [hp]; split <;> grind
        have hpg : p ≤ g := by rw [hp]; split <;> grind
        have hns : nextW (ovG gs day) (upf w n g) l = upf w n (g - p) := by
          unfold nextW
          rw [hps, if_pos hp0, hws, hin.1]
          funext m
          unfold upf
          by_cases e : m = n <;> simp [e]
        have hpb : FrB D M p := by rw [hp]; split; exact h0.2; exact hgb
        have stp := lt_step (gd := gd) (st := st) (wa := wa) (day := day) (R := R) (L := L) (T := takeL (ovG gs day) ls w) (n := n) (v9 := v9) (v10 := v10) (v11 := v11) hD hs hs2 hgp hgb h0.1 h0.2 hLk' (by omega) (by omega) hp
        have ers : restT (ovG gs day) (upf w n g) l = if p ≠ l.q then [⟨l.nm, l.t, l.q - p⟩] else [] := by unfold restT; rw [hps]
        have hk3 : ∀ x ∈ L ++ (if p ≠ l.q then [(⟨l.nm, l.t, l.q - p⟩ : Lt Str)] else []), ∀ m ∈ ls, keyT x ≠ keyT m := fun x hx m hm => by
          rcases List.mem_append.mp hx with hx | hx
          · exact hLk x hx m (List.mem_cons_of_mem _ hm)
          · split at hx
            · cases List.mem_singleton.mp hx
              exact hk1 m hm
            · cases hx
        have hb : (if p ≠ l.q then [(⟨l.nm, l.t, l.q - p⟩ : Lt Str)] else []).length ≤ 1 := by split <;> simp
        obtain ⟨rN, w8, w9, w10, w11, e, pm, hrl⟩ := lt_in hD hs hs2 ls (L ++ (if p ≠ l.q then [⟨l.nm, l.t, l.q - p⟩] else [])) (R ++ [⟨l.nm, l.t, p⟩]) w (g - p) (some (.dat (eL l))) (some (.dat (eR p))) (some (.dat (eR (l.q - p)))) (some (.dat (.int (L.length : Nat)))) hw (by grind) (FrB.sub hD hgb hpb hpg) hl' hk2 hk3 (by simp; omega) (by rw [List.length_append]; omega)
        refine ⟨⟨l.nm, l.t, p⟩ :: rN, w8, w9, w10, w11, ?_, ?_, by simp; omega⟩
        · rw [List.map_cons, forA]
          have tg : tName 8 (eL l) (frT gd st wa day R (L ++ l :: takeL (ovG gs day) ls w) n g v8 v9 v10 v11) = some (frT gd st wa day R (L ++ l :: takeL (ovG gs day) ls w) n g (some (.dat (eL l))) v9 v10 v11) := rfl
          simp only [tg, stp]
          rw [e]
          have ee : (if g - p ≤ avail (ovG gs day) ls n then (0 : Rat) else g - p - avail (ovG gs day) ls n) = if g ≤ l.q + avail (ovG gs day) ls n then 0 else g - (l.q + avail (ovG gs day) ls n) := by
            by_cases hlt : l.q < g
            · rw [if_pos hlt] at hp
              subst hp
              split <;> split <;> grind
            · rw [if_neg hlt] at hp
              subst hp
              split <;> split <;> grind
          rw [ee]
          have et : takeL (ovG gs day) (l :: ls) (upf w n g) = (if p ≠ l.q then [⟨l.nm, l.t, l.q - p⟩] else []) ++ takeL (ovG gs day) ls (upf w n (g - p)) := by
            show restT _ _ _ ++ takeL _ _ _ = _
            rw [ers, hns]
          rw [et]
          simp only [List.append_assoc, List.singleton_append]
        · have et : takeR (ovG gs day) (l :: ls) (upf w n g) = [⟨l.nm, l.t, p⟩] ++ takeR (ovG gs day) ls (upf w n (g - p)) := by
            show rowT _ _ _ ++ takeR _ _ _ = _
            rw [hns]
            unfold rowT
            rw [hps, if_pos hp0]
          rw [et, List.singleton_append]
          exact (List.Perm.cons _ pm).trans List.perm_middle.symm
      · -- nothing wanted more
        have hg0 : g = 0 := by grind
        subst hg0
        have hu : upf w n 0 = w := by
          funext m
          unfold upf
          split
          · rename_i e; rw [e, hw]
          · rfl
        have t1 : (xB (xOp2 dGt (xIx (xVar 7) (xC (.int 0))) (xC (.int 0)))) (frT gd st wa day R (L ++ l :: takeL (ovG gs day) ls w) n 0 (some (.dat (eL l))) none none none) = .ok false (frT gd st wa day R (L ++ l :: takeL (ovG gs day) ls w) n 0 (some (.dat (eL l))) none none none) := by
          simp [eR_ix0, dGt]
        have st0 : b__law_taken_l1 (frT gd st wa day R (L ++ l :: takeL (ovG gs day) ls w) n 0 (some (.dat (eL l))) v9 v10 v11) = .nx (frT gd st wa day R (L ++ l :: takeL (ovG gs day) ls w) n 0 (some (.dat (eL l))) none none none) := by
          unfold b__law_taken_l1
          show sIf _ _ _ (frT gd st wa day R (L ++ l :: takeL (ovG gs day) ls w) n 0 (some (.dat (eL l))) none none none) = _
          rw [if_ok t1]
          rfl
        obtain ⟨rN, w8, w9, w10, w11, e, pm, hrl⟩ := lt_in hD hs hs2 ls (L ++ [l]) R w 0 (some (.dat (eL l))) none none none hw Rat.le_refl FrB.zero hl' hk2 (fun x hx m hm => by
          rcases List.mem_append.mp hx with hx | hx
          · exact hLk x hx m (List.mem_cons_of_mem _ hm)
          · cases List.mem_singleton.mp hx; exact hk1 m hm) (by omega) (by simp; omega)
        rw [hu] at e pm
        refine ⟨rN, w8, w9, w10, w11, ?_, ?_, by simp; omega⟩
        · rw [List.map_cons, forA]
          have tg : tName 8 (eL l) (frT gd st wa day R (L ++ l :: takeL (ovG gs day) ls w) n 0 v8 v9 v10 v11) = some (frT gd st wa day R (L ++ l :: takeL (ovG gs day) ls w) n 0 (some (.dat (eL l))) v9 v10 v11) := rfl
          simp only [tg, st0]
          rw [List.append_assoc, List.singleton_append] at e
          rw [hu, eT, e, if_pos hav, if_pos (by have := h0.1; grind)]
        · rw [hu, eR0]
          exact pm
    · -- a lot that is passed by
      have ef : (l :: ls).filter (fun l => l.nm == n && !ovG gs day l) = ls.filter (fun l => l.nm == n && !ovG gs day l) := by
        rw [List.filter_cons_of_neg]
        intro h
        simp at h
        exact hin h
      have hw' : nextW (ovG gs day) w l n = 0 := by
        by_cases e : l.nm = n
        · have ho : ovG gs day l = true := by
            cases q : ovG gs day l with
            | true => rfl
            | false => exact absurd ⟨e, q⟩ hin
          obtain ⟨_, _, r3⟩ := at_zero (ov := ovG gs day) (w := w) h0.1 (by unfold wantT; rw [ho]; rfl)
          rw [r3, hw]
        · rw [next_other e, hw]
      have hb : (restT (ovG gs day) w l).length ≤ 1 := by unfold restT; split <;> simp
      obtain ⟨rN, w8, w9, w10, w11, e, pm, hrl⟩ := lt_in (gd := gd) (st := st) (wa := wa) hD hs hs2 ls (L ++ restT (ovG gs day) w l) R (nextW (ovG gs day) w l) g v8 v9 v10 v11 hw' hg hgb hl' hk2 (fun x hx m hm => by
        rcases List.mem_append.mp hx with hx | hx
        · exact hLk x hx m (List.mem_cons_of_mem _ hm)
        · unfold restT at hx
          split at hx
          · cases List.mem_singleton.mp hx; exact hk1 m hm
          · cases hx) (by omega) (by rw [List.length_append]; omega)
      refine ⟨rN, w8, w9, w10, w11, ?_, ?_, by simp; omega⟩
      · rw [ef, av, if_neg hin]
        have z : (0 : Rat) + avail (ovG gs day) ls n = avail (ovG gs day) ls n := by grind
        rw [z]
        show forA _ _ _ (frT gd st wa day R (L ++ (restT _ _ _ ++ takeL _ _ _)) n g v8 v9 v10 v11) = .nx (frT gd st wa day (R ++ rN) (L ++ (restT _ _ _ ++ takeL _ _ _)) n _ _ _ _ _)
        rw [rest_upf hin, next_upf h0.1 hin, ← List.append_assoc, ← List.append_assoc]
        exact e
      · show (rowT _ _ _ ++ takeR _ _ _).Perm ((rowT _ _ _ ++ takeR _ _ _) ++ rN)
        rw [row_upf hin, next_upf h0.1 hin, List.append_assoc]
        exact List.Perm.append_left _ pm
end G
/-! PB: the law's own taking, typed (laws k52, k54). -/
namespace G
open PySem PySem.Spec PyProof.Rows L2

theorem aget_snoc {β : Type} {kvs : List (Str × β)} {q : Str × β} (h : q.1 ∉ kvs.map (·.1)) (m : Str) : aget (kvs ++ [q]) m = if m = q.1 then some q.2 else aget kvs m := by
  unfold aget
  rw [List.find?_append]
  by_cases e : m = q.1
  · subst e
    have : kvs.find? (fun z => z.1 == q.1) = none := by
      rw [List.find?_eq_none]
      intro z hz hh
      exact h (List.mem_map.mpr ⟨z, hz, by simpa using hh⟩)
    rw [this]
    simp
  · have : [q].find? (fun z => z.1 == m) = none := by
      rw [List.find?_eq_none]
      intro z hz hh
      cases List.mem_singleton.mp hz
      exact e (by simpa using hh : q.1 = m).symm
    rw [this, if_neg e]
    simp
theorem wOf_snoc {kvs : List (Str × Rat)} {q : Str × Rat} (h : q.1 ∉ kvs.map (·.1)) : wOf (kvs ++ [q]) = upf (wOf kvs) q.1 q.2 := by
  funext m
  unfold wOf upf
  rw [aget_snoc h]
  split <;> rfl
theorem wOf_not {kvs : List (Str × Rat)} {n : Str} (h : n ∉ kvs.map (·.1)) : wOf kvs n = 0 := by
  unfold wOf
  rw [aget_none.mpr h]; rfl
theorem lackL_cons {av : Str → Rat} {q : Str × Rat} {ns : List (Str × Rat)} : lackL av (q :: ns) = if av q.1 < q.2 then (q.1, q.2 - av q.1) :: lackL av ns else lackL av ns := by
  unfold lackL
  rw [List.filter_cons]
  by_cases h : av q.1 < q.2 <;> simp [h]
abbrev frO (gd st wa : PyData) (day : Int) (R L : List (Lt Str)) (v6 v7 v8 v9 v10 v11 : Option AV) : Fr := ⟨[some (.dat gd), some (.dat st), some (.dat wa), some (.dat (.int day)), some (.cel 0), some (.cel 1), v6, v7, v8, v9, v10, v11, none], [.lst (R.map eL), .lst (L.map eL)], 0⟩
section
variable {wa : PyData} {gs : List Gd} {ls : List (Lt Str)} {day : Int} {D M : Nat}
/-- one name -/
theorem lt_one (hD : 0 < D) (hs : M * 61 * D < 2 ^ 1000) (hs2 : D < 2 ^ 1000) (hg : gs.length ≤ 1000000) (hl : StO gs D M ls) (hr : RiseK (ls.map keyT)) (q : Str × Rat) (w : Str → Rat) (R : List (Lt Str)) (v8 v9 v10 v11 : Option AV) (hw : w q.1 = 0) (h0 : 0 < q.2) (hb : FrB D M q.2) (hR : R.length < 1000) :
    ∃ (rN : List (Lt Str)) (v8' v9' v10' v11' : Option AV), (if q.2 ≤ thereG gs day ls q.1 then
        b__law_taken_l2 (frO (.tuple (gs.map eG)) (.tuple (ls.map eL)) wa day R (takeL (ovG gs day) ls w) (some (.dat (.str q.1))) (some (.dat (eR q.2))) v8 v9 v10 v11) = .nx (frO (.tuple (gs.map eG)) (.tuple (ls.map eL)) wa day (R ++ rN) (takeL (ovG gs day) ls (upf w q.1 q.2)) (some (.dat (.str q.1))) (some (.dat (eR 0))) v8' v9' v10' v11')
      else ∃ fr', b__law_taken_l2 (frO (.tuple (gs.map eG)) (.tuple (ls.map eL)) wa day R (takeL (ovG gs day) ls w) (some (.dat (.str q.1))) (some (.dat (eR q.2))) v8 v9 v10 v11) = .ret (.dat (.list [.str q.1, eR (q.2 - thereG gs day ls q.1)])) fr') ∧
      (takeR (ovG gs day) ls (upf w q.1 q.2)).Perm (takeR (ovG gs day) ls w ++ rN) ∧ rN.length ≤ ls.length := by
  have hs3 : M * D < 2 ^ 1000 := Nat.lt_of_le_of_lt (Nat.mul_le_mul_right _ (Nat.le_mul_of_pos_right _ (by decide))) hs
  have h60 := hl.len
  have hk : ls.Pairwise fun a b => keyT a ≠ keyT b := by
    unfold RiseK at hr
    rw [List.pairwise_map] at hr
    refine hr.imp fun {a b} hab e => ?_
    rw [e, keyLt_irrefl] at hab
    cases hab
  obtain ⟨rN, w8, w9, w10, w11, e, pm, hrl⟩ := lt_in (gd := .tuple (gs.map eG)) (st := .tuple (ls.map eL)) (wa := wa) (gs := gs) (day := day) (n := q.1) hD hs3 hs2 ls [] R w q.2 none none none none hw (by grind) hb (fun l h => ⟨hl.q0 l h, hl.q l h⟩) hk (fun x hx => nomatch hx) (by omega) (by simp; omega)
  have ec := xComp_typed (own := [12]) (g := tName 12) (t := b__law_taken_t1) (f := b__law_taken_e1) (e := xItems (xVar 1)) (fr := frO (.tuple (gs.map eG)) (.tuple (ls.map eL)) wa day R (takeL (ovG gs day) ls w) (some (.dat (.str q.1))) (some (.dat (eR q.2))) none none none none) eL (fun l => l.nm == q.1 && !ovG gs day l) eL (fun l => ⟨[some (.dat (.tuple (gs.map eG))), some (.dat (.tuple (ls.map eL))), some (.dat wa), some (.dat (.int day)), some (.cel 0), some (.cel 1), some (.dat (.str q.1)), some (.dat (eR q.2)), none, none, none, none, some (.dat (eL l))], [.lst (R.map eL), .lst ((takeL (ovG gs day) ls w).map eL)], 0⟩) ls (by simp) (by omega) (fun _ _ => rfl) (fun _ => rfl)
    (fun l h => by
      have ho := t_lis_over (day := day) hg (hl.nm l h)
      by_cases hn : l.nm = q.1
      · cases o : ovG gs day l with
        | true => rw [o] at ho; simp [b__law_taken_t1, lot_ix0, dEq, eqOk_str, eqv_str, hn, ho]
        | false => rw [o] at ho; simp [b__law_taken_t1, lot_ix0, dEq, eqOk_str, eqv_str, hn, ho]
      · simp [b__law_taken_t1, lot_ix0, dEq, eqOk_str, eqv_str, hn]) (fun _ _ _ => by simp [b__law_taken_e1])
  refine ⟨rN, none, none, none, none, ?_, pm, hrl⟩
  unfold frO frT at *
  simp only [List.nil_append] at e
  have hth : thereG gs day ls q.1 = avail (ovG gs day) ls q.1 := rfl
  by_cases hle : q.2 ≤ thereG gs day ls q.1
  · rw [if_pos hle]
    rw [if_pos (by rw [← hth]; exact hle)] at e
    unfold b__law_taken_l2
    simp [ec, e, eR_ix0, dGt]
  · rw [if_neg hle]
    rw [if_neg (by rw [← hth]; exact hle)] at e
    have hpos : 0 < q.2 - thereG gs day ls q.1 := by grind
    rw [← hth] at e
    generalize thereG gs day ls q.1 = th at *
    unfold b__law_taken_l2
    simp [ec, e, eR_ix0, dGt, num_pos, hpos]
theorem lt_out (hD : 0 < D) (hs : M * 61 * D < 2 ^ 1000) (hs2 : D < 2 ^ 1000) (hg : gs.length ≤ 1000000) (hl : StO gs D M ls) (hr : RiseK (ls.map keyT)) : ∀ (rest ds : List (Str × Rat)) (R : List (Lt Str)) (v6 v7 v8 v9 v10 v11 : Option AV), ((ds ++ rest).map (·.1)).Nodup → (∀ q ∈ rest, 0 < q.2 ∧ FrB D M q.2) → R.Perm (takeR (ovG gs day) ls (wOf ds)) →
    (lackL (thereG gs day ls) rest = [] → ∃ (R' : List (Lt Str)) (w6 w7 w8 w9 w10 w11 : Option AV), forA (tNames [6, 7]) b__law_taken_l2 (rest.map eN) (frO (.tuple (gs.map eG)) (.tuple (ls.map eL)) wa day R (takeL (ovG gs day) ls (wOf ds)) v6 v7 v8 v9 v10 v11) = .nx (frO (.tuple (gs.map eG)) (.tuple (ls.map eL)) wa day R' (takeL (ovG gs day) ls (wOf (ds ++ rest))) w6 w7 w8 w9 w10 w11) ∧ R'.Perm (takeR (ovG gs day) ls (wOf (ds ++ rest)))) ∧
    (∀ q qs, lackL (thereG gs day ls) rest = q :: qs → ∃ fr', forA (tNames [6, 7]) b__law_taken_l2 (rest.map eN) (frO (.tuple (gs.map eG)) (.tuple (ls.map eL)) wa day R (takeL (ovG gs day) ls (wOf ds)) v6 v7 v8 v9 v10 v11) = .ret (.dat (.list [.str q.1, eR q.2])) fr')
  | [], ds, R, v6, v7, v8, v9, v10, v11, _, _, pm => ⟨fun _ => ⟨R, v6, v7, v8, v9, v10, v11, by rw [List.append_nil]; rfl, by rw [List.append_nil]; exact pm⟩, fun q qs e => by cases e⟩
  | q :: rest, ds, R, v6, v7, v8, v9, v10, v11, nd, hq, pm => by
    have hq0 := hq q (List.mem_cons_self ..)
    have hn : q.1 ∉ ds.map (·.1) := by
      intro hm
      rw [List.map_append, List.nodup_append] at nd
      exact nd.2.2 _ hm _ (List.mem_map.mpr ⟨q, List.mem_cons_self .., rfl⟩) rfl
    have hRl : R.length < 1000 := by
      have := pm.length_eq
      have h2 := (@row_sub _ _ (ovG gs day) (wOf ds) ls).length_le
      have := hl.len
      simp at h2
      omega
    obtain ⟨rN, w8, w9, w10, w11, e, pm2, _⟩ := lt_one (wa := wa) (day := day) hD hs hs2 hg hl hr q (wOf ds) R v8 v9 v10 v11 (wOf_not hn) hq0.1 hq0.2 hRl
    have tg : tNames [6, 7] (eN q) (frO (.tuple (gs.map eG)) (.tuple (ls.map eL)) wa day R (takeL (ovG gs day) ls (wOf ds)) v6 v7 v8 v9 v10 v11) = some (frO (.tuple (gs.map eG)) (.tuple (ls.map eL)) wa day R (takeL (ovG gs day) ls (wOf ds)) (some (.dat (.str q.1))) (some (.dat (eR q.2))) v8 v9 v10 v11) := rfl
    rw [lackL_cons, List.map_cons, forA]
    simp only [tg]
    by_cases hle : q.2 ≤ thereG gs day ls q.1
    · rw [if_pos hle] at e
      rw [if_neg (by grind)]
      simp only [e]
      rw [← wOf_snoc hn]
      have ea : ds ++ q :: rest = (ds ++ [q]) ++ rest := by simp
      rw [ea]
      refine lt_out hD hs hs2 hg hl hr rest (ds ++ [q]) (R ++ rN) _ _ _ _ _ _ (by rw [← ea]; exact nd) (fun z hz => hq z (List.mem_cons_of_mem _ hz)) ?_
      rw [wOf_snoc hn]
      exact (List.Perm.append_right _ pm).trans pm2.symm
    · rw [if_neg hle] at e
      obtain ⟨fr', e⟩ := e
      rw [if_pos (by grind)]
      simp only [e]
      refine ⟨fun z => (by cases z), fun q2 qs z => ?_⟩
      cases z
      exact ⟨fr', rfl⟩
end
theorem eL_sortOk2 {xs : List (Lt Str)} (hl : xs.length ≤ 1000000) : sortOk (xs.map eL) = true := sortOk_t hl (fun _ _ _ _ => by simp [eL, eR, PySem.W.alike, PySem.W.alikeAll]) (fun _ _ => rfl) (fun x _ => by have := eL_depth2 x; omega)
theorem sortL_perm {xs ys : List (Lt Str)} (hl : xs.length ≤ 1000000) (p : xs.Perm ys) (h : RiseK (ys.map keyT)) : dSortL (xs.map eL) = some (.list (ys.map eL)) := by
  unfold dSortL
  rw [if_pos (eL_sortOk2 hl), (riseL h).sorted (p.map _)]
/-- what the law takes -/
def ltk (gs : List Gd) (day : Int) (ls : List (Lt Str)) (ns : List (Str × Rat)) : PyData := match lackL (thereG gs day ls) ns with
  | [] => .tuple [.str "told", .tuple [.list ((takeR (ovG gs day) ls (wOf ns)).map eL), .tuple ((takeL (ovG gs day) ls (wOf ns)).map eL)]]
  | q :: _ => .list [.str q.1, eR q.2]
theorem t_ltaken {gs : List Gd} {ls : List (Lt Str)} {ns : List (Str × Rat)} {day : Int} {D M : Nat} (hD : 0 < D) (hs : M * 61 * D < 2 ^ 1000) (hs2 : D < 2 ^ 1000) (hg : gs.length ≤ 1000000) (hl : StO gs D M ls) (hr : RiseK (ls.map keyT)) (hn : NdO D M ns) :
    m__law_taken [.dat (.tuple (gs.map eG)), .dat (.tuple (ls.map eL)), .dat (.list (ns.map eN)), .dat (.int day)] [] = .ok (.dat (ltk gs day ls ns)) [] := by
  obtain ⟨z1, z2⟩ := take_none (ov := ovG gs day) hl.q0
  have hz : (wOf [] : Str → Rat) = fun _ => 0 := by funext m; rfl
  obtain ⟨o1, o2⟩ := lt_out (wa := .list (ns.map eN)) (day := day) hD hs hs2 hg hl hr ns [] [] none none none none none none (by simpa using hn.nd) (fun q hq => ⟨hn.q0 q hq, hn.q q hq⟩) (by rw [hz, z2])
  rw [hz, z1] at o1 o2
  have hll := hl.len
  have hnl := hn.len
  unfold ltk m__law_taken b__law_taken
  unfold frO at o1 o2
  cases q : lackL (thereG gs day ls) ns with
  | nil =>
    obtain ⟨R', w6, w7, w8, w9, w10, w11, e, pm⟩ := o1 q
    rw [List.nil_append] at e pm
    have hrr : RiseK ((takeR (ovG gs day) ls (wOf ns)).map keyT) := List.Pairwise.sublist row_sub hr
    have rl := (@row_sub _ _ (ovG gs day) (wOf ns) ls).length_le
    have rl2 := (@rest_sub _ _ (ovG gs day) (wOf ns) ls).length_le
    simp at rl rl2
    have pl := pm.length_eq
    have so := sortL_perm (by omega) pm hrr
    simp only [List.map_nil] at e
    generalize takeR (ovG gs day) ls (wOf ns) = TR at *
    generalize takeL (ovG gs day) ls (wOf ns) = TL at *
    simp [e, dSorted, seqD, so]
  | cons q0 qs =>
    obtain ⟨fr', e⟩ := o2 q0 qs q
    simp only [List.map_nil] at e
    simp [e]
theorem llack_in {gs : List Gd} {ls : List (Lt Str)} {D M : Nat} {day : Int} {n : Str} {v1 v2 v4 v6 : Option AV} {v8 : Option AV} {cs : List Cell} {bs : Nat} (hD : 0 < D) (hs : M * 61 * D < 2 ^ 1000) (hs2 : D < 2 ^ 1000) (hg : gs.length ≤ 1000000) (hl : StO gs D M ls) :
    ∃ v8', forA (tName 8) b__law_lacks_l1 (ls.map eL) ⟨[some (.dat (.tuple (gs.map eG))), v1, v2, some (.dat (.int day)), v4, some (.dat (.str n)), v6, some (.dat (eR 0)), v8], cs, bs⟩ = .nx ⟨[some (.dat (.tuple (gs.map eG))), v1, v2, some (.dat (.int day)), v4, some (.dat (.str n)), v6, some (.dat (eR (thereG gs day ls n))), v8'], cs, bs⟩ := by
  have key := forA_typed (g := tName 8) (b := b__law_lacks_l1) eL (fun done fr => ∃ v8', fr = ⟨[some (.dat (.tuple (gs.map eG))), v1, v2, some (.dat (.int day)), v4, some (.dat (.str n)), v6, some (.dat (eR (thereG gs day done n))), v8'], cs, bs⟩) ls ⟨[some (.dat (.tuple (gs.map eG))), v1, v2, some (.dat (.int day)), v4, some (.dat (.str n)), v6, some (.dat (eR 0)), v8], cs, bs⟩ ⟨v8, rfl⟩ ?_
  · obtain ⟨fr', e, v8', rfl⟩ := key
    exact ⟨v8', e⟩
  · rintro done l rest fr he ⟨v8', rfl⟩
    obtain ⟨hm, hd, hlen⟩ := take_of he
    have ha : FrB D (M * done.length) (thereG gs day done n) := StO.avail (gs := gs) hD fun m hm => hl.q m (hd m hm)
    have h60 := hl.len
    have hle : M * done.length ≤ M * 61 := Nat.mul_le_mul_left _ (by omega)
    have hle2 : M ≤ M * 61 := Nat.le_mul_of_pos_right _ (by decide)
    have h3 : M * 61 * D < 2 ^ 1000 := hs
    have s1 : Sm (thereG gs day done n) := (ha.up hle).sm hD hs hs2
    have s2 : Sm l.q := ((hl.q l hm).up hle2).sm hD hs hs2
    refine ⟨_, ⟨[some (.dat (.tuple (gs.map eG))), v1, v2, some (.dat (.int day)), v4, some (.dat (.str n)), v6, some (.dat (eR (thereG gs day (done ++ [l]) n))), some (.dat (eL l))], cs, bs⟩, rfl, .inl ?_, _, rfl⟩
    have ho := t_lis_over (day := day) hg (hl.nm l hm)
    have hx : dIx (eL l) (.int 0) = some (.str l.nm) := by simp [eL, dIx, atI, ixN]
    have hx2 : dIx (eL l) (.int 2) = some (eR l.q) := by simp [eL, dIx, atI, ixN]
    have hp := s_lplus s1 s2
    rw [show thereG gs day (done ++ [l]) n = thereG gs day done n + (if (l.nm == n && !ovG gs day l) = true then l.q else 0) from avail_snoc]
    generalize thereG gs day done n = t at *
    have e0 : t + 0 = t := by grind
    by_cases hn : l.nm = n
    · cases o : ovG gs day l with
      | true =>
        rw [o] at ho
        simp [b__law_lacks_l1, hx, dEq, eqOk_str, eqv_str, hn, ho, e0]
      | false =>
        rw [o] at ho
        simp [b__law_lacks_l1, hx, dEq, eqOk_str, eqv_str, hn, ho, hx2, hp]
    · simp [b__law_lacks_l1, hx, dEq, eqOk_str, eqv_str, hn, e0]
theorem t_llacks {gs : List Gd} {ls : List (Lt Str)} {ns : List (Str × Rat)} {D M N : Nat} {day : Int} (hD : 0 < D) (hs : M * 61 * D < 2 ^ 1000) (hs2 : D < 2 ^ 1000) (hs3 : N * D < 2 ^ 1000) (hg : gs.length ≤ 1000000) (hl : StO gs D M ls) (hn : NdO D N ns) :
    m__law_lacks [.dat (.tuple (gs.map eG)), .dat (.tuple (ls.map eL)), .dat (.list (ns.map eN)), .dat (.int day)] [] = .ok (.dat (.list ((lackL (thereG gs day ls) ns).map eN))) [] := by
  have key := forA_typed (g := tNames [5, 6]) (b := b__law_lacks_l2) eN (fun done fr => ∃ v5 v6 v7 v8, fr = ⟨[some (.dat (.tuple (gs.map eG))), some (.dat (.tuple (ls.map eL))), some (.dat (.list (ns.map eN))), some (.dat (.int day)), some (.cel 0), v5, v6, v7, v8], [.lst ((lackL (thereG gs day ls) done).map eN)], 0⟩) ns ⟨[some (.dat (.tuple (gs.map eG))), some (.dat (.tuple (ls.map eL))), some (.dat (.list (ns.map eN))), some (.dat (.int day)), some (.cel 0), none, none, none, none], [.lst []], 0⟩ ⟨none, none, none, none, rfl⟩ ?_
  · obtain ⟨fr', e, v5, v6, v7, v8, rfl⟩ := key
    unfold m__law_lacks b__law_lacks
    simp [e]
  · rintro done q rest fr he ⟨v5, v6, v7, v8, rfl⟩
    obtain ⟨hm, hd, hlen⟩ := take_of he
    obtain ⟨v8', e1⟩ := llack_in (gs := gs) (ls := ls) (day := day) (n := q.1) (v1 := some (.dat (.tuple (ls.map eL)))) (v2 := some (.dat (.list (ns.map eN)))) (v4 := some (.cel 0)) (v6 := some (.dat (eR q.2))) (v8 := none) (cs := [.lst ((lackL (thereG gs day ls) done).map eN)]) (bs := 0) hD hs hs2 hg hl
    have ha : FrB D (M * ls.length) (thereG gs day ls q.1) := StO.avail (gs := gs) hD hl.q
    have h60 := hl.len
    have s1 : Sm (thereG gs day ls q.1) := (ha.up (Nat.mul_le_mul_left _ (by omega : ls.length ≤ 61))).sm hD hs hs2
    have s2 : Sm q.2 := (hn.q q hm).sm hD hs3 hs2
    have hlt := s_lbelow s1 s2
    have hmi := s_lminus s2 s1
    have hll : (lackL (thereG gs day ls) done).length < 1000000 := by
      have := lackL_len (av := thereG gs day ls) (ns := done)
      have := hn.len
      omega
    refine ⟨⟨[some (.dat (.tuple (gs.map eG))), some (.dat (.tuple (ls.map eL))), some (.dat (.list (ns.map eN))), some (.dat (.int day)), some (.cel 0), some (.dat (.str q.1)), some (.dat (eR q.2)), v7, v8], [.lst ((lackL (thereG gs day ls) done).map eN)], 0⟩, ⟨[some (.dat (.tuple (gs.map eG))), some (.dat (.tuple (ls.map eL))), some (.dat (.list (ns.map eN))), some (.dat (.int day)), some (.cel 0), some (.dat (.str q.1)), some (.dat (eR q.2)), some (.dat (eR (thereG gs day ls q.1))), none], [.lst ((lackL (thereG gs day ls) (done ++ [q])).map eN)], 0⟩, rfl, .inl ?_, _, _, _, _, rfl⟩
    rw [lackL_snoc]
    rw [eR_zero] at e1
    by_cases h : thereG gs day ls q.1 < q.2
    · simp [b__law_lacks_l2, e1, hlt, h, hmi, hll, eN]
    · simp [b__law_lacks_l2, e1, hlt, h]
end G
/-! PC: tables of lots by name and day (law k52). -/
namespace G
open PySem PySem.Spec PyProof.Rows L2

def eKey (l : Lt Str) : PyData := .tuple [.str l.nm, .int l.t]
def eKL (l : Lt Str) : PyData × PyData := (eKey l, eR l.q)
def kqB (l m : Lt Str) : Bool := l.nm == m.nm && (l.t == m.t && true)
theorem kq_eqv (l m : Lt Str) : PyData.eqv (eKey l) (eKey m) = kqB l m := rfl
theorem kq_iff {l m : Lt Str} : kqB l m = true ↔ keyT l = keyT m := by
  unfold kqB keyT
  simp
def ladd : List (Lt Str) → Lt Str → List (Lt Str)
  | [], l => [l]
  | m :: K, l => if kqB m l = true then ⟨m.nm, m.t, m.q + l.q⟩ :: K else m :: ladd K l
abbrev NdK (K : List (Lt Str)) : Prop := (K.map keyT).Nodup
def lgetD (K : List (Lt Str)) (l : Lt Str) : Rat := match K.find? (fun m => kqB m l) with
  | some m => m.q
  | none => 0
theorem kfind_l (K : List (Lt Str)) (l : Lt Str) : (kfind (K.map eKL) (eKey l)).getD (.tuple [.int 0, .int 1]) = eR (lgetD K l) := by
  unfold kfind lgetD
  rw [List.find?_map]
  have : ((fun q : PyData × PyData => PyData.eqv q.1 (eKey l)) ∘ eKL) = fun m => kqB m l := rfl
  rw [this]
  cases K.find? (fun m => kqB m l) <;> rfl
theorem kput_cons_ne {q : PyData × PyData} {kvs : List (PyData × PyData)} {k v : PyData} (h : PyData.eqv q.1 k = false) : kput (q :: kvs) k v = q :: kput kvs k v := by
  have e : kfind (q :: kvs) k = kfind kvs k := by unfold kfind; rw [List.find?_cons, h]
  unfold kput
  rw [e]
  by_cases hh : (kfind kvs k).isSome = true
  · rw [if_pos hh, if_pos hh, List.map_cons, h]; rfl
  · rw [if_neg hh, if_neg hh]; rfl
theorem kput_cons_eq {q : PyData × PyData} {kvs : List (PyData × PyData)} {k v : PyData} (h : PyData.eqv q.1 k = true) (h2 : ∀ z ∈ kvs, PyData.eqv z.1 k = false) : kput (q :: kvs) k v = (q.1, v) :: kvs := by
  unfold kput kfind
  rw [List.find?_cons, h]
  simp only [Option.map_some, Option.isSome_some, if_true, List.map_cons, h]
  congr 1
  refine (List.map_congr_left fun z hz => ?_).trans (List.map_id _)
  rw [h2 z hz]; rfl
theorem kput_l : ∀ {K : List (Lt Str)} {l : Lt Str}, NdK K → kput (K.map eKL) (eKey l) (eR (lgetD K l + l.q)) = (ladd K l).map eKL
  | [], l, _ => by
    have : lgetD [] l + l.q = l.q := by unfold lgetD; simp; grind
    rw [this]; rfl
  | m :: K, l, nd => by
    obtain ⟨n1, n2⟩ := List.nodup_cons.mp (show (keyT m :: K.map keyT).Nodup from nd)
    unfold ladd
    cases q : kqB m l with
    | true =>
      have e : lgetD (m :: K) l = m.q := by unfold lgetD; rw [List.find?_cons, q]
      rw [e, List.map_cons, if_pos rfl, kput_cons_eq (q := eKL m) (k := eKey l) q ?_]
      · rfl
      · intro z hz
        obtain ⟨x, hx, rfl⟩ := List.mem_map.mp hz
        show kqB x l = false
        cases q2 : kqB x l with
        | false => rfl
        | true => exact absurd (List.mem_map.mpr ⟨x, hx, (kq_iff.mp q2).trans (kq_iff.mp q).symm⟩) n1
    | false =>
      have e : lgetD (m :: K) l = lgetD K l := by unfold lgetD; rw [List.find?_cons, q]
      rw [e, List.map_cons, kput_cons_ne (q := eKL m) (k := eKey l) q, kput_l n2]
      rfl
theorem lget_new {K : List (Lt Str)} {l : Lt Str} (h : keyT l ∉ K.map keyT) : lgetD K l = 0 := by
  unfold lgetD
  have : K.find? (fun m => kqB m l) = none := by
    rw [List.find?_eq_none]
    intro m hm q
    exact h (List.mem_map.mpr ⟨m, hm, kq_iff.mp q⟩)
  rw [this]
theorem kput_new {K : List (Lt Str)} {l : Lt Str} (nd : NdK K) (h : keyT l ∉ K.map keyT) : kput (K.map eKL) (eKey l) (eR l.q) = (ladd K l).map eKL := by
  have := kput_l (l := l) nd
  rw [lget_new h] at this
  have e : (0 : Rat) + l.q = l.q := by grind
  rw [e] at this
  exact this
theorem ladd_keys : ∀ {K : List (Lt Str)} {l : Lt Str} {k : Str × Int}, k ∈ (ladd K l).map keyT ↔ k ∈ K.map keyT ∨ k = keyT l
  | [], l, k => by simp [ladd]
  | m :: K, l, k => by
    unfold ladd
    cases q : kqB m l with
    | true =>
      have e := kq_iff.mp q
      simp only [if_true, List.map_cons, List.mem_cons]
      have e2 : keyT (⟨m.nm, m.t, m.q + l.q⟩ : Lt Str) = keyT m := rfl
      rw [e2]
      constructor
      · exact fun h => .inl h
      · rintro (h | h)
        · exact h
        · exact .inl (h.trans e.symm)
    | false =>
      simp only [Bool.false_eq_true, if_false, List.map_cons, List.mem_cons]
      rw [ladd_keys (K := K)]
      exact or_assoc.symm
theorem ladd_nd : ∀ {K : List (Lt Str)} {l : Lt Str}, NdK K → NdK (ladd K l)
  | [], l, _ => by simp [NdK, ladd]
  | m :: K, l, nd => by
    obtain ⟨n1, n2⟩ := List.nodup_cons.mp (show (keyT m :: K.map keyT).Nodup from nd)
    unfold ladd NdK
    cases q : kqB m l with
    | true => exact nd
    | false =>
      show (keyT m :: (ladd K l).map keyT).Nodup
      refine List.nodup_cons.mpr ⟨fun h => ?_, ladd_nd n2⟩
      rcases ladd_keys.mp h with h | h
      · exact n1 h
      · rw [kq_iff.mpr h] at q; cases q
theorem ladd_len {K : List (Lt Str)} {l : Lt Str} : (ladd K l).length ≤ K.length + 1 := by
  induction K with
  | nil => simp [ladd]
  | cons m K ih =>
    unfold ladd
    split <;> simp
    omega
theorem ladd_all {P : Lt Str → Prop} {l : Lt Str} (hl : P l) : ∀ {K : List (Lt Str)}, (∀ m ∈ K, P m) → (∀ m ∈ K, keyT m = keyT l → P ⟨m.nm, m.t, m.q + l.q⟩) → ∀ m ∈ ladd K l, P m
  | [], _, _, m, hm => by
    cases List.mem_singleton.mp hm
    exact hl
  | x :: K, h, h2, m, hm => by
    unfold ladd at hm
    cases q : kqB x l with
    | true =>
      rw [q, if_pos rfl] at hm
      rcases List.mem_cons.mp hm with rfl | hm
      · exact h2 x (List.mem_cons_self ..) (kq_iff.mp q)
      · exact h m (List.mem_cons_of_mem _ hm)
    | false =>
      rw [q, if_neg (by decide)] at hm
      rcases List.mem_cons.mp hm with rfl | hm
      · exact h _ (List.mem_cons_self ..)
      · exact ladd_all hl (fun m hm => h m (List.mem_cons_of_mem _ hm)) (fun m hm => h2 m (List.mem_cons_of_mem _ hm)) m hm
theorem avail_cons {ov : Lt Str → Bool} {l : Lt Str} {ls : List (Lt Str)} {n : Str} : avail ov (l :: ls) n = (if l.nm = n ∧ ov l = false then l.q else 0) + avail ov ls n := by
  unfold avail
  rw [List.filter_cons]
  cases q : ov l with
  | true => simp; grind
  | false => simp [sumOf_cons]
theorem avail_ladd {ov : Lt Str → Bool} (hk : ∀ l m : Lt Str, keyT l = keyT m → ov l = ov m) {l : Lt Str} {n : Str} : ∀ {K : List (Lt Str)}, avail ov (ladd K l) n = avail ov K n + (if l.nm = n ∧ ov l = false then l.q else 0)
  | [] => by
    unfold ladd
    rw [avail_cons]
    grind
  | m :: K => by
    unfold ladd
    cases q : kqB m l with
    | true =>
      have e := kq_iff.mp q
      have e1 : m.nm = l.nm := congrArg Prod.fst e
      have e2 : ov (⟨m.nm, m.t, m.q + l.q⟩ : Lt Str) = ov l := hk _ _ e
      have e3 : ov m = ov l := hk _ _ e
      rw [if_pos rfl, avail_cons, avail_cons, e2, e3]
      show (if m.nm = n ∧ ov l = false then m.q + l.q else 0) + _ = _
      rw [e1]
      split <;> grind
    | false =>
      rw [if_neg (by decide), avail_cons, avail_cons, avail_ladd hk (K := K)]
      grind
theorem avail_fold {ov : Lt Str → Bool} (hk : ∀ l m : Lt Str, keyT l = keyT m → ov l = ov m) {n : Str} : ∀ {xs K : List (Lt Str)}, avail ov (xs.foldl ladd K) n = avail ov K n + avail ov xs n
  | [], K => by
    have : avail ov ([] : List (Lt Str)) n = 0 := rfl
    rw [this]
    show avail ov K n = _
    grind
  | x :: xs, K => by
    rw [List.foldl_cons, avail_fold hk (xs := xs), avail_ladd hk, avail_cons]
    grind
theorem avail_perm {ov : Lt Str → Bool} {n : Str} {xs ys : List (Lt Str)} (p : xs.Perm ys) : avail ov xs n = avail ov ys n := by
  induction p with
  | nil => rfl
  | cons x _ ih => rw [avail_cons, avail_cons, ih]
  | swap x y l => rw [avail_cons, avail_cons, avail_cons, avail_cons]; grind
  | trans _ _ h1 h2 => exact h1.trans h2
theorem avail_mem {ov : Lt Str → Bool} {l : Lt Str} : ∀ {xs : List (Lt Str)}, (∀ x ∈ xs, 0 < x.q) → l ∈ xs → ov l = false → l.q ≤ avail ov xs l.nm
  | x :: xs, h, hm, ho => by
    rw [avail_cons]
    have h0 := avail_nn (ov := ov) (ls := xs) (fun z hz => h z (List.mem_cons_of_mem _ hz)) l.nm
    rcases List.mem_cons.mp hm with rfl | hm
    · rw [if_pos ⟨rfl, ho⟩]
      grind
    · have := avail_mem (fun z hz => h z (List.mem_cons_of_mem _ hz)) hm ho
      have := h x (List.mem_cons_self ..)
      split <;> grind
/-- what is known of a table while it grows -/
structure TbK (gs : List Gd) (D B : Nat) (K : List (Lt Str)) : Prop where
  nd : NdK K
  nm : ∀ l ∈ K, HasG gs l.nm
  q0 : ∀ l ∈ K, 0 < l.q
  q : ∀ l ∈ K, FrB D B l.q
theorem TbK.add {gs : List Gd} {D B M : Nat} {K : List (Lt Str)} {l : Lt Str} (hD : 0 < D) (h : TbK gs D B K) (h1 : HasG gs l.nm) (h2 : 0 < l.q) (h3 : FrB D M l.q) : TbK gs D (B + M) (ladd K l) :=
  ⟨ladd_nd h.nd, ladd_all (P := fun l => HasG gs l.nm) h1 h.nm (fun m hm _ => h.nm m hm), ladd_all (P := fun l => 0 < l.q) h2 h.q0 (fun m hm _ => by
    have := h.q0 m hm
    show 0 < m.q + l.q
    grind), ladd_all (P := fun l => FrB D (B + M) l.q) (h3.up (by omega)) (fun m hm => (h.q m hm).up (by omega)) (fun m hm _ => FrB.add hD (h.q m hm) h3)⟩
theorem fold_len {xs : List (Lt Str)} : ∀ {K : List (Lt Str)}, (xs.foldl ladd K).length ≤ K.length + xs.length := by
  induction xs with
  | nil => intro K; exact Nat.le_refl _
  | cons x xs ih =>
    intro K
    rw [List.foldl_cons, List.length_cons]
    have := ih (K := ladd K x)
    have := ladd_len (K := K) (l := x)
    omega
theorem fold_keys {xs : List (Lt Str)} {k : Str × Int} : ∀ {K : List (Lt Str)}, k ∈ (xs.foldl ladd K).map keyT ↔ k ∈ K.map keyT ∨ k ∈ xs.map keyT := by
  induction xs with
  | nil => intro K; simp
  | cons x xs ih =>
    intro K
    rw [List.foldl_cons, ih, ladd_keys, List.map_cons, List.mem_cons]
    exact or_assoc
end G
/-! PD: law k52. -/
namespace G
open PySem PySem.Spec PyProof.Rows L2

def b_X_taken_l1 : Fr → SRes :=
  sRaise "Lacks" ["good", "grams"] (xCons (xVar 4) (xCons (xVar 5) (xNil)))
def b_X_taken_l2 : Fr → SRes :=
  sKill [10, 11] (sSeq (sSet 10 (xIf (xB (xCall m_is_over (xCons (xVar 0) (xCons (xVar 9) (xCons (xVar 3) (xNil)))))) (xC (.tuple [.int 0, .int 1])) (xDGetD (xVar 6) (xIx (xVar 9) (xC (.int 0))) (xC (.tuple [.int 0, .int 1])))))
  (sSeq (sSet 11 (xIf (xB (xCall m_is_less (xCons (xIx (xVar 9) (xC (.int 2))) (xCons (xVar 10) (xNil))))) (xIx (xVar 9) (xC (.int 2))) (xVar 10)))
  (sSeq (sIf (xB (xOp2 dGt (xIx (xVar 11) (xC (.int 0))) (xC (.int 0)))) (sSeq (sApp 7 (xOp2 dAdd (xSl (xVar 9) (xNo) (xSo (xC (.int 2)))) (xTup (xCons (xVar 11) (xNil)))))
  (sDSet 6 (xIx (xVar 9) (xC (.int 0))) (xCall m_minus (xCons (xVar 10) (xCons (xVar 11) (xNil)))))) (sNx))
  (sIf (xB (xOp2 dNe (xVar 11) (xIx (xVar 9) (xC (.int 2))))) (sApp 8 (xOp2 dAdd (xSl (xVar 9) (xNo) (xSo (xC (.int 2)))) (xTup (xCons (xCall m_minus (xCons (xIx (xVar 9) (xC (.int 2))) (xCons (xVar 11) (xNil)))) (xNil))))) (sNx)))))
def b_X_taken : Fr → SRes :=
  sSeq (sFor (xItems (xCall m_lacking (xCons (xVar 0) (xCons (xVar 1) (xCons (xVar 2) (xCons (xVar 3) (xNil))))))) (tNames [4, 5]) (b_X_taken_l1))
  (sKill [4, 5] (sSeq (sSet 6 (xDictF (xVar 2)))
  (sSeq (sPar 7 8 (xCons (xNewL (xNil)) (xCons (xNewL (xNil)) (xNil))))
  (sSeq (sFor (xItems (xVar 1)) (tName 9) (b_X_taken_l2))
  (sKill [9, 10, 11] (sFrzM 7 (sRet (xTup (xCons (xVar 7) (xCons (xB1 dTuple (xCons (xVar 8) (xNil))) (xNil)))))))))))
def m_X_taken : AFun := mkFun 12 4 b_X_taken

def b_X__law_told_y1 : Fr → SRes :=
  sSet 4 (xTup (xCons (xC (.str "told")) (xCons (xCall m_X_taken (xCons (xVar 0) (xCons (xVar 1) (xCons (xVar 2) (xCons (xVar 3) (xNil)))))) (xNil))))
def b_X__law_told : Fr → SRes :=
  sSeq (sSet 4 (xC .none))
  (sSeq (sTry ["Lacks"] (b_X__law_told_y1) [⟨["Lacks"], suSet (some 5) 4 (.lst [.f "good", .f "grams"])⟩])
  (sRet (xVar 4)))
def m_X__law_told : AFun := mkFun 6 4 b_X__law_told

def b_law_l1 : Fr → SRes :=
  sDSet 10 (xTup (xCons (xVar 11) (xCons (xVar 7) (xNil)))) (xVar 12)
def b_law_l2 : Fr → SRes :=
  sDSet 10 (xSl (xVar 13) (xNo) (xSo (xC (.int 2)))) (xCall m__law_plus (xCons (xDGetD (xVar 10) (xSl (xVar 13) (xNo) (xSo (xC (.int 2)))) (xTup (xCons (xC (.int 0)) (xCons (xC (.int 1)) (xNil))))) (xCons (xIx (xVar 13) (xC (.int 2))) (xNil))))
def b_law_e1 : Fr → Res AV :=
  xOp2 dAdd (xVar 15) (xTup (xCons (xDGet (xVar 10) (xVar 15)) (xNil)))
def b_law_l3 : Fr → SRes :=
  sKill [3, 4, 5, 6, 7, 8, 9, 10, 11, 12, 13, 14] (sGc (sSeq (sSet 4 (xCall m__law_goods (xCons (xVar 2) (xNil))))
  (sSeq (sPar3 5 6 7 (xCons (xCall m__law_store (xCons (xVar 2) (xCons (xVar 4) (xNil)))) (xCons (xCall m__law_wants (xCons (xVar 2) (xCons (xVar 4) (xNil)))) (xCons (xCall m__law_pick (xCons (xVar 2) (xCons (xC (.int 14)) (xNil)))) (xNil)))))
  (sSeq (sSet 8 (xB1 dList (xCons (xVar 6) (xNil))))
  (sSeq (sIf (xNot (xB (xCall (m__law_same 8) (xCons (xCall (noE m_X__law_told) (xCons (xVar 4) (xCons (xVar 5) (xCons (xVar 8) (xCons (xVar 7) (xNil)))))) (xCons (xCall m__law_taken (xCons (xVar 4) (xCons (xVar 5) (xCons (xVar 6) (xCons (xVar 7) (xNil)))))) (xNil)))))) (sRet (xC (.bool false))) (sNx))
  (sSeq (sSet 9 (xCall m__law_lacks (xCons (xVar 4) (xCons (xVar 5) (xCons (xVar 6) (xCons (xVar 7) (xNil)))))))
  (sSeq (sIf (xOr (xNot (xB (xCall (m__law_same 8) (xCons (xCall m_to_buy (xCons (xVar 4) (xCons (xVar 5) (xCons (xVar 8) (xCons (xVar 7) (xNil)))))) (xCons (xVar 9) (xNil)))))) (xB (xOp2 dNe (xVar 8) (xVar 6)))) (sRet (xC (.bool false))) (sNx))
  (sSeq (sSet 10 (xNewD true))
  (sSeq (sFor (xItems (xVar 9)) (tNames [11, 12]) (b_law_l1))
  (sKill [11, 12] (sSeq (sFor (xItems (xVar 5)) (tName 13) (b_law_l2))
  (sKill [13] (sSeq (sSet 14 (xB1 dTuple (xCons (xComp [15] (xItems (xD1 dSortedK (xVar 10))) (tName 15) (xYes) (b_law_e1)) (xNil))))
  (sIf (xOr (xB (xOp2 dNe (xCall m_to_buy (xCons (xVar 4) (xCons (xVar 14) (xCons (xVar 6) (xCons (xVar 7) (xNil)))))) (xLst (xNil)))) (xB (xIsi (isi "list") (xCall (noE m_X__law_told) (xCons (xVar 4) (xCons (xVar 14) (xCons (xVar 6) (xCons (xVar 7) (xNil))))))))) (sRet (xC (.bool false))) (sNx)))))))))))))))
def b_law_l4 : Fr → SRes :=
  sKill [2, 3, 4, 5, 6, 7, 8, 9, 10, 11, 12, 13, 14] (sGc (sSeq (sSet 2 (xCallF m__law_deck (xCons (xVar 1) (xCons (xC (.int 52)) (xNil)))))
  (sFor (xRange1 (xC (.int 5))) (tName 3) (b_law_l3))))
def b_law : Fr → SRes :=
  sSeq (sFor (xItems (xSl (xOp2 dAdd (xLst (xCons (xC (.int 0)) (xNil))) (xVar 0)) (xNo) (xSo (xC (.int 10))))) (tName 1) (b_law_l4))
  (sKill [1, 2, 3, 4, 5, 6, 7, 8, 9, 10, 11, 12, 13, 14] (sRet (xOp2 dEq (xCall (noE m_X_taken) (xCons (xTup (xCons (xTup (xCons (xC (.str "egg")) (xCons (xC (.int 1)) (xCons (xC (.int 1)) (xCons (xC (.int 1)) (xCons (xTup (xNil)) (xNil))))))) (xNil))) (xCons (xTup (xNil)) (xCons (xLst (xNil)) (xCons (xC (.int 5)) (xNil)))))) (xTup (xCons (xLst (xNil)) (xCons (xTup (xNil)) (xNil)))))))
def m_law : AFun := mkFun 16 1 b_law

theorem xtake2 : b_X_taken_l2 = b_taken_l2 := rfl
section
variable {gs : List Gd} {ls : List (Lt Str)} {ns : List (Str × Rat)} {D M N : Nat} {day : Int}
theorem t_xtaken (hD : 0 < D) (hs : M * 61 * D < 2 ^ 1000) (hs2 : D < 2 ^ 1000) (hl : StO gs D M ls) (hn : NdO D M ns) (h0 : lackL (thereG gs day ls) ns = []) :
    m_X_taken [.dat (.tuple (gs.map eG)), .dat (.tuple (ls.map eL)), .dat (.list (ns.map eN)), .dat (.int day)] [] = .ok (.dat (.tuple [.list ((takeR (ovG gs day) ls (wOf ns)).map eL), .tuple ((takeL (ovG gs day) ls (wOf ns)).map eL)])) [] := by
  have hs3 : M * D < 2 ^ 1000 := Nat.lt_of_le_of_lt (Nat.mul_le_mul_right _ (Nat.le_mul_of_pos_right _ (by decide))) hs
  have el := t_lacking (day := day) hD hs hs2 hs3 hl hn
  rw [h0] at el
  have hll := hl.len
  have hnl := hn.len
  obtain ⟨kvs', v9, v10, v11, e⟩ := take_loop (gs := gs) (D := D) (M := M) (day := day) (v1 := some (.dat (.tuple (ls.map eL)))) (v2 := some (.dat (.list (ns.map eN)))) (v4 := none) (v5 := none) hD hs3 hs2 ls ns [] [] (wOf ns) none none none (fun l h => ⟨hl.nm l h, hl.q0 l h, hl.q l h⟩) hn.q (by omega) (fun n => rfl) (by rw [List.length_nil]; omega) (by rw [List.length_nil]; omega)
  rw [List.nil_append, List.nil_append] at e
  have hd := dict_nodup hn.nd
  unfold m_X_taken b_X_taken
  rw [xtake2]
  simp [el, forA, pairs_t, hd]
  simp at e
  simp [e]
theorem t_xlack (hD : 0 < D) (hs : M * 61 * D < 2 ^ 1000) (hs2 : D < 2 ^ 1000) (hl : StO gs D M ls) (hn : NdO D M ns) {q : Str × Rat} {qs : List (Str × Rat)} (h0 : lackL (thereG gs day ls) ns = q :: qs) :
    m_X_taken [.dat (.tuple (gs.map eG)), .dat (.tuple (ls.map eL)), .dat (.list (ns.map eN)), .dat (.int day)] [] = .exc "Lacks" [("good", .str q.1), ("grams", eR q.2)] [] := by
  have hs3 : M * D < 2 ^ 1000 := Nat.lt_of_le_of_lt (Nat.mul_le_mul_right _ (Nat.le_mul_of_pos_right _ (by decide))) hs
  have el := t_lacking (day := day) hD hs hs2 hs3 hl hn
  rw [h0] at el
  unfold m_X_taken b_X_taken
  simp [el, forA, b_X_taken_l1, eN, noLs, noL, eR]
theorem t_told (hD : 0 < D) (hs : M * 61 * D < 2 ^ 1000) (hs2 : D < 2 ^ 1000) (hl : StO gs D M ls) (hn : NdO D M ns) :
    m_X__law_told [.dat (.tuple (gs.map eG)), .dat (.tuple (ls.map eL)), .dat (.list (ns.map eN)), .dat (.int day)] [] = .ok (.dat (ltk gs day ls ns)) [] := by
  unfold m_X__law_told b_X__law_told ltk
  cases q : lackL (thereG gs day ls) ns with
  | nil =>
    have e := t_xtaken (day := day) hD hs hs2 hl hn q
    generalize takeR (ovG gs day) ls (wOf ns) = TR at *
    generalize takeL (ovG gs day) ls (wOf ns) = TL at *
    simp [b_X__law_told_y1, e]
  | cons q0 qs =>
    have e := t_xlack (day := day) hD hs hs2 hl hn q
    have k1 : (("grams" : Str) == ("good" : Str)) = false := by decide +kernel
    simp [b_X__law_told_y1, e, List.lookup, k1]
end

/-! ### the table of what is bought and what is there -/
def dL (day : Int) (q : Str × Rat) : Lt Str := ⟨q.1, day, q.2⟩
def fullK (day : Int) (due : List (Str × Rat)) (ls : List (Lt Str)) : List (Lt Str) := ls.foldl ladd ((due.map (dL day)).foldl ladd [])
theorem kOk_key (l : Lt Str) : kOk true (.tuple [.str l.nm, .int l.t]) = true := by simp [kOk, nkO, nkOs, NestedKey.depth, NestedKey.depthAll]
theorem fold_snoc {α β : Type} {f : α → β → α} {a : α} {xs : List β} {x : β} : (xs ++ [x]).foldl f a = f (xs.foldl f a) x := by rw [List.foldl_append]; rfl
theorem dayG_nn {gs : List Gd} (h : ∀ g ∈ gs, GdO g) (n : Str) : 0 ≤ dayG gs n := by
  unfold dayG
  cases q : gfindT gs n with
  | none => exact Int.le_refl _
  | some g => exact (h g (List.mem_of_find?_eq_some q)).d0
theorem lack_mem {av : Str → Rat} {ns : List (Str × Rat)} {q : Str × Rat} (h : q ∈ lackL av ns) : ∃ p ∈ ns, q.1 = p.1 ∧ q.2 = p.2 - av p.1 ∧ av p.1 < p.2 := by
  unfold lackL at h
  obtain ⟨p, hp, rfl⟩ := List.mem_map.mp h
  obtain ⟨h1, h2⟩ := List.mem_filter.mp hp
  exact ⟨p, h1, rfl, rfl, of_decide_eq_true h2⟩
theorem lack_names {av : Str → Rat} {ns : List (Str × Rat)} (nd : (ns.map (·.1)).Nodup) : ((lackL av ns).map (·.1)).Nodup := by
  unfold lackL
  rw [List.map_map]
  exact (List.Sublist.map _ List.filter_sublist).nodup nd
theorem eN_Pl (q : Str × Rat) : Pl 2 (eN q) := .tup (by simp) fun x hx => by
  simp only [List.mem_cons, List.not_mem_nil, or_false] at hx
  rcases hx with rfl | rfl
  · exact .str
  · exact .tup (by simp) fun y hy => by
      simp only [List.mem_cons, List.not_mem_nil, or_false] at hy
      rcases hy with rfl | rfl <;> exact .int
theorem eR_Pl (q : Rat) : Pl 1 (eR q) := .tup (by simp) fun y hy => by
  simp only [List.mem_cons, List.not_mem_nil, or_false] at hy
  rcases hy with rfl | rfl <;> exact .int
theorem eL_Pl (l : Lt Str) : Pl 2 (eL l) := .tup (by simp) fun x hx => by
  simp only [List.mem_cons, List.not_mem_nil, or_false] at hx
  rcases hx with rfl | rfl | rfl
  · exact .str
  · exact .int
  · exact eR_Pl _
theorem eNs_Pl {ns : List (Str × Rat)} (h : ns.length ≤ 1000000) : Pl 3 (.list (ns.map eN)) := .lst (by simpa using h) fun x hx => by
  obtain ⟨q, _, rfl⟩ := List.mem_map.mp hx
  exact eN_Pl q
theorem ltk_Pl {gs : List Gd} {ls : List (Lt Str)} {ns : List (Str × Rat)} {day : Int} (h : ls.length ≤ 60) : Pl 5 (ltk gs day ls ns) := by
  have rl := (@row_sub _ _ (ovG gs day) (wOf ns) ls).length_le
  have rl2 := (@rest_sub _ _ (ovG gs day) (wOf ns) ls).length_le
  simp at rl rl2
  unfold ltk
  split
  · refine .tup (by simp) fun x hx => ?_
    simp only [List.mem_cons, List.not_mem_nil, or_false] at hx
    rcases hx with rfl | rfl
    · exact .str
    · refine .tup (by simp) fun x hx => ?_
      simp only [List.mem_cons, List.not_mem_nil, or_false] at hx
      rcases hx with rfl | rfl
      · exact .lst (by simp; omega) fun x hx => by
          obtain ⟨q, _, rfl⟩ := List.mem_map.mp hx
          exact eL_Pl q
      · exact .tup (by simp; omega) fun x hx => by
          obtain ⟨q, _, rfl⟩ := List.mem_map.mp hx
          exact eL_Pl q
  · refine .lst (by simp) fun x hx => ?_
    simp only [List.mem_cons, List.not_mem_nil, or_false] at hx
    rcases hx with rfl | rfl
    · exact .str
    · exact .tup (by simp) fun y hy => by
        simp only [List.mem_cons, List.not_mem_nil, or_false] at hy
        rcases hy with rfl | rfl <;> exact .int
abbrev fr52 (ns0 : List Int) (c : Int) (v3 v4 v5 v6 v7 v8 v9 v10 v11 v12 v13 v14 : Option AV) (cs : List Cell) : Fr := ⟨[some (.scr ns0), some (.dat (.int c)), some (.cel 0), v3, v4, v5, v6, v7, v8, v9, v10, v11, v12, v13, v14, none], cs, 0⟩
section
variable {gs : List Gd} {ls : List (Lt Str)} {due : List (Str × Rat)} {day : Int} {ns0 : List Int} {c : Int} {v3 v4 v5 v6 v8 v9 : Option AV} {dk : Cell}
theorem l52_1 (nd : (due.map (·.1)).Nodup) (hq : ∀ q ∈ due, HasG gs q.1 ∧ 0 < q.2 ∧ FrB 420 40 q.2) (hl : due.length ≤ 1000) : ∃ w11 w12, forA (tNames [11, 12]) b_law_l1 (due.map eN) (fr52 ns0 c v3 v4 v5 v6 (some (.dat (.int day))) v8 v9 (some (.cel 1)) none none none none [dk, .dct true []]) = .nx (fr52 ns0 c v3 v4 v5 v6 (some (.dat (.int day))) v8 v9 (some (.cel 1)) w11 w12 none none [dk, .dct true (((due.map (dL day)).foldl ladd []).map eKL)]) ∧ TbK gs 420 (40 * due.length) ((due.map (dL day)).foldl ladd []) := by
  have key := forA_typed (g := tNames [11, 12]) (b := b_law_l1) eN (fun done fr => ∃ v11 v12, fr = fr52 ns0 c v3 v4 v5 v6 (some (.dat (.int day))) v8 v9 (some (.cel 1)) v11 v12 none none [dk, .dct true (((done.map (dL day)).foldl ladd []).map eKL)] ∧ TbK gs 420 (40 * done.length) ((done.map (dL day)).foldl ladd [])) due (fr52 ns0 c v3 v4 v5 v6 (some (.dat (.int day))) v8 v9 (some (.cel 1)) none none none none [dk, .dct true []]) ⟨none, none, rfl, .nil, (fun l h => nomatch h), (fun l h => nomatch h), (fun l h => nomatch h)⟩ ?_
  · obtain ⟨fr', e, w11, w12, rfl, tb⟩ := key
    exact ⟨w11, w12, e, tb⟩
  · rintro done q rest fr he ⟨v11, v12, rfl, tb⟩
    obtain ⟨hm, _, hlen⟩ := take_of he
    have hq0 := hq q hm
    have fresh : keyT (dL day q) ∉ ((done.map (dL day)).foldl ladd []).map keyT := by
      intro h
      rcases fold_keys.mp h with h | h
      · cases h
      · rw [List.map_map] at h
        obtain ⟨z, hz, e⟩ := List.mem_map.mp h
        have e3 : z.1 = q.1 := by
          have e4 : (z.1, day) = (q.1, day) := e
          exact (Prod.mk.inj e4).1
        rw [he, List.map_append, List.nodup_append] at nd
        exact nd.2.2 _ (List.mem_map.mpr ⟨z, hz, rfl⟩) _ (List.mem_map.mpr ⟨q, List.mem_cons_self .., rfl⟩) e3
    have kp := kput_new tb.nd fresh
    have kl : ((done.map (dL day)).foldl ladd []).length < 1000000 := by
      have := fold_len (xs := done.map (dL day)) (K := [])
      simp at this
      omega
    have tb2 := TbK.add (by decide) tb (l := dL day q) hq0.1 hq0.2.1 hq0.2.2
    have kk := kOk_key (dL day q)
    have hb : 40 * done.length + 40 = 40 * (done ++ [q]).length := by simp; omega
    rw [hb, ← fold_snoc (f := ladd)] at tb2
    have em : (done ++ [q]).map (dL day) = done.map (dL day) ++ [dL day q] := by simp
    rw [← em] at tb2
    refine ⟨_, fr52 ns0 c v3 v4 v5 v6 (some (.dat (.int day))) v8 v9 (some (.cel 1)) (some (.dat (.str q.1))) (some (.dat (eR q.2))) none none [dk, .dct true ((((done ++ [q]).map (dL day)).foldl ladd []).map eKL)], rfl, .inl ?_, _, _, rfl, tb2⟩
    rw [em, fold_snoc, ← kp]
    generalize (done.map (dL day)).foldl ladd [] = K at *
    unfold eKey dL at *
    simp [b_law_l1, kk, kl]
theorem l52_2 {K0 : List (Lt Str)} {B : Nat} (tb0 : TbK gs 420 B K0) (hK0 : K0.length ≤ 1000) (hq : ∀ l ∈ ls, HasG gs l.nm ∧ 0 < l.q ∧ FrB 420 40 l.q) (hl : ls.length ≤ 60) (hB : B ≤ 40000) : ∃ w13, forA (tName 13) b_law_l2 (ls.map eL) (fr52 ns0 c v3 v4 v5 v6 (some (.dat (.int day))) v8 v9 (some (.cel 1)) none none none none [dk, .dct true (K0.map eKL)]) = .nx (fr52 ns0 c v3 v4 v5 v6 (some (.dat (.int day))) v8 v9 (some (.cel 1)) none none w13 none [dk, .dct true ((ls.foldl ladd K0).map eKL)]) ∧ TbK gs 420 (B + 40 * ls.length) (ls.foldl ladd K0) := by
  have key := forA_typed (g := tName 13) (b := b_law_l2) eL (fun done fr => ∃ v13, fr = fr52 ns0 c v3 v4 v5 v6 (some (.dat (.int day))) v8 v9 (some (.cel 1)) none none v13 none [dk, .dct true ((done.foldl ladd K0).map eKL)] ∧ TbK gs 420 (B + 40 * done.length) (done.foldl ladd K0)) ls (fr52 ns0 c v3 v4 v5 v6 (some (.dat (.int day))) v8 v9 (some (.cel 1)) none none none none [dk, .dct true (K0.map eKL)]) ⟨none, rfl, tb0⟩ ?_
  · obtain ⟨fr', e, w13, rfl, tb⟩ := key
    exact ⟨w13, e, tb⟩
  · rintro done l rest fr he ⟨v13, rfl, tb⟩
    obtain ⟨hm, _, hlen⟩ := take_of he
    have hq0 := hq l hm
    have kp := kput_l (l := l) tb.nd
    have kf := kfind_l (done.foldl ladd K0) l
    have kl : (done.foldl ladd K0).length < 1000000 := by
      have := fold_len (xs := done) (K := K0)
      omega
    have tb2 := TbK.add (by decide) tb hq0.1 hq0.2.1 hq0.2.2
    have kk := kOk_key l
    have hb : B + 40 * done.length + 40 = B + 40 * (done ++ [l]).length := by simp; omega
    rw [hb, ← fold_snoc (f := ladd)] at tb2
    have s1 : Sm (lgetD (done.foldl ladd K0) l) := by
      have z : FrB 420 (B + 40 * done.length) (lgetD (done.foldl ladd K0) l) := by
        unfold lgetD
        split
        · rename_i m hm2
          exact tb.q m (List.mem_of_find?_eq_some hm2)
        · exact FrB.zero
      exact (z.up (by omega : B + 40 * done.length ≤ 50000)).sm (by decide) (by decide) (by decide)
    have s2 : Sm l.q := hq0.2.2.sm (by decide) (by decide) (by decide)
    have hp := s_lplus s1 s2
    refine ⟨_, fr52 ns0 c v3 v4 v5 v6 (some (.dat (.int day))) v8 v9 (some (.cel 1)) none none (some (.dat (eL l))) none [dk, .dct true (((done ++ [l]).foldl ladd K0).map eKL)], rfl, .inl ?_, _, rfl, tb2⟩
    rw [fold_snoc, ← kp]
    generalize done.foldl ladd K0 = K at *
    unfold eKey at *
    simp [b_law_l2, kk, kl, lot_sl, lot_ix2, kf, hp]
end

/-- with what lacked bought, nothing lacks -/
theorem full_has {gs : List Gd} {ls : List (Lt Str)} {ns : List (Str × Rat)} {day : Int} (hg : ∀ g ∈ gs, GdO g) (hl : ∀ l ∈ ls, 0 < l.q) : ∀ q ∈ ns, q.2 ≤ avail (ovG gs day) (fullK day (lackL (thereG gs day ls) ns) ls) q.1 := by
  intro q hq
  have e : avail (ovG gs day) (fullK day (lackL (thereG gs day ls) ns) ls) q.1 = avail (ovG gs day) ((lackL (thereG gs day ls) ns).map (dL day)) q.1 + avail (ovG gs day) ls q.1 := by
    unfold fullK
    rw [avail_fold ovG_key, avail_fold ovG_key]
    have : avail (ovG gs day) ([] : List (Lt Str)) q.1 = 0 := rfl
    rw [this]
    grind
  rw [e]
  have pos : ∀ x ∈ (lackL (thereG gs day ls) ns).map (dL day), 0 < x.q := fun x hx => by
    obtain ⟨z, hz, rfl⟩ := List.mem_map.mp hx
    obtain ⟨p, _, _, h2, h3⟩ := lack_mem hz
    show 0 < z.2
    rw [h2]
    grind
  have nn := avail_nn (ov := ovG gs day) pos q.1
  by_cases h : thereG gs day ls q.1 < q.2
  · have hm : dL day (q.1, q.2 - thereG gs day ls q.1) ∈ (lackL (thereG gs day ls) ns).map (dL day) := by
      refine List.mem_map.mpr ⟨_, ?_, rfl⟩
      unfold lackL
      exact List.mem_map.mpr ⟨q, List.mem_filter.mpr ⟨hq, decide_eq_true h⟩, rfl⟩
    have ho : ovG gs day (dL day (q.1, q.2 - thereG gs day ls q.1)) = false := by
      have := dayG_nn hg q.1
      unfold ovG dL
      exact decide_eq_false (by show ¬ (day + dayG gs q.1 < day); omega)
    have := avail_mem pos hm ho
    have h4 : q.2 - thereG gs day ls q.1 ≤ avail (ovG gs day) ((lackL (thereG gs day ls) ns).map (dL day)) q.1 := this
    have h5 : thereG gs day ls q.1 = avail (ovG gs day) ls q.1 := rfl
    grind
  · have h5 : thereG gs day ls q.1 = avail (ovG gs day) ls q.1 := rfl
    grind
theorem eKey_sortOk {xs : List (Lt Str)} (hl : xs.length ≤ 1000000) : sortOk (xs.map eKey) = true := sortOk_t hl (fun _ _ _ _ => by simp [eKey, PySem.W.alike, PySem.W.alikeAll]) (fun _ _ => rfl) (fun x _ => by simp [eKey, PyData.depth, PyData.depthAll])
theorem sortK_l {K : List (Lt Str)} (hl : K.length ≤ 1000000) : dSortedK (K.map eKL) = some (.list ((srtT eKey K).map eKey)) := by
  have : (K.map eKL).map (·.1) = K.map eKey := by rw [List.map_map]; rfl
  unfold dSortedK dSortL
  rw [this, if_pos (eKey_sortOk hl), srtT_map]
theorem kfind_mem_l : ∀ {K : List (Lt Str)} {l : Lt Str}, NdK K → l ∈ K → kfind (K.map eKL) (eKey l) = some (eR l.q)
  | m :: K, l, nd, hm => by
    obtain ⟨n1, n2⟩ := List.nodup_cons.mp (show (keyT m :: K.map keyT).Nodup from nd)
    unfold kfind
    rw [List.map_cons, List.find?_cons]
    show Option.map _ (match kqB m l with | true => some (eKL m) | false => _) = _
    cases q : kqB m l with
    | true =>
      rcases List.mem_cons.mp hm with rfl | h
      · rfl
      · exact absurd (List.mem_map.mpr ⟨l, h, (kq_iff.mp q).symm⟩) n1
    | false =>
      rcases List.mem_cons.mp hm with rfl | h
      · rw [kq_iff.mpr rfl] at q; cases q
      · exact kfind_mem_l n2 h
theorem s52_turn {n : Nat} {d : Dk} {ns0 : List Int} {c : Int} {v3 v4 v5 v6 v7 v8 v9 v10 v11 v12 v13 v14 : Option AV} {cs : List Cell} (h : d.ok (n + 87)) :
    ∃ (d' : Dk) (w3 w4 w5 w6 w7 w8 w9 w10 w11 w12 w13 w14 : Option AV) (cs' : List Cell), b_law_l3 (fr52 ns0 c v3 v4 v5 v6 v7 v8 v9 v10 v11 v12 v13 v14 (.lst d.l :: cs)) = .nx (fr52 ns0 c w3 w4 w5 w6 w7 w8 w9 w10 w11 w12 w13 w14 (.lst d'.l :: cs')) ∧ d'.ok n := by
  obtain ⟨gs, d1, e1, h1, hg, hg2, hg6, hgn⟩ := t_goods (n := n + 44) h
  obtain ⟨ls, d2, e2, h2, hl, hr, hl8⟩ := t_store (n := n + 11) h1 (by omega) hg6
  obtain ⟨ns, d3, e3, h3, hn, hng, hn3, hns⟩ := t_wants (n := n + 1) h2 (by omega) hg6
  obtain ⟨day, d4, e4, h4, y0, y1⟩ := s_pick (n := n) h3 (k := 14) (by decide) (by decide)
  have hst : StO gs 420 40 ls := ⟨fun l h => (hl l h).nm, fun l h => (hl l h).q0, fun l h => (hl l h).q, by omega⟩
  have hgl : gs.length ≤ 1000000 := by omega
  have et := t_told (day := day) (D := 420) (M := 40) (by decide) (by decide) (by decide) hst hn
  have elt := t_ltaken (day := day) (D := 420) (M := 40) (by decide) (by decide) (by decide) hgl hst hr hn
  have esm := s_same (m := 8) (ltk_Pl (gs := gs) (ls := ls) (ns := ns) (day := day) (by omega)) (by decide)
  have ell := t_llacks (day := day) (D := 420) (M := 40) (N := 40) (by decide) (by decide) (by decide) (by decide) hgl hst hn
  have eb := t_to_buy (day := day) (D := 420) (M := 40) (N := 40) (by decide) (by decide) (by decide) (by decide) hst hn
  have ednd := lack_names (av := thereG gs day ls) hn.nd
  have edq : ∀ q ∈ lackL (thereG gs day ls) ns, HasG gs q.1 ∧ 0 < q.2 ∧ FrB 420 40 q.2 := fun q hq => by
    obtain ⟨p, hp, z1, z2, z3⟩ := lack_mem hq
    have ha : FrB 420 (40 * ls.length) (thereG gs day ls p.1) := StO.avail (gs := gs) (by decide) hst.q
    rw [z1, z2]
    exact ⟨hng p hp, by grind, FrB.sub (by decide) (hn.q p hp) ha (by grind)⟩
  have edl : (lackL (thereG gs day ls) ns).length ≤ 3 := Nat.le_trans lackL_len hn3
  have hfull := full_has (ns := ns) (day := day) hg hst.q0
  unfold fullK at hfull
  have esd := s_same (m := 8) (eNs_Pl (ns := lackL (thereG gs day ls) ns) (by omega)) (by decide)
  have ens := eNs_Pl (ns := ns) (by omega)
  have q1 := eqOk_l (y := .list (ns.map eN)) (by have := depth_Pl ens; omega : (PyData.list (ns.map eN)).depth ≤ 64)
  have q2 := eqv_self ens
  generalize ltk gs day ls ns = X at *
  generalize lackL (thereG gs day ls) ns = due at *
  obtain ⟨w11, w12, el1, tb1⟩ := l52_1 (gs := gs) (due := due) (day := day) (ns0 := ns0) (c := c) (v3 := none) (v4 := some (.dat (.tuple (gs.map eG)))) (v5 := some (.dat (.tuple (ls.map eL)))) (v6 := some (.dat (.list (ns.map eN)))) (v8 := some (.dat (.list (ns.map eN)))) (v9 := some (.dat (.list (due.map eN)))) (dk := .lst d4.l) ednd edq (by omega)
  have kl1 : ((due.map (dL day)).foldl ladd []).length ≤ 3 := by
    have := fold_len (xs := due.map (dL day)) (K := [])
    simp at this
    omega
  generalize (due.map (dL day)).foldl ladd [] = K0 at *
  obtain ⟨w13, el2, tb2⟩ := l52_2 (gs := gs) (ls := ls) (day := day) (ns0 := ns0) (c := c) (v3 := none) (v4 := some (.dat (.tuple (gs.map eG)))) (v5 := some (.dat (.tuple (ls.map eL)))) (v6 := some (.dat (.list (ns.map eN)))) (v8 := some (.dat (.list (ns.map eN)))) (v9 := some (.dat (.list (due.map eN)))) (dk := .lst d4.l) tb1 (by omega) (fun l h => ⟨hst.nm l h, hst.q0 l h, hst.q l h⟩) (by omega) (by omega)
  have kl2 : (ls.foldl ladd K0).length ≤ 11 := by
    have := fold_len (xs := ls) (K := K0)
    omega
  have hB : 40 * due.length + 40 * ls.length ≤ 440 := by omega
  generalize ls.foldl ladd K0 = K at *
  have pm := srtT_perm eKey K
  have eso := sortK_l (K := K) (by omega)
  have hfl : (srtT eKey K).length ≤ 11 := by rw [pm.length_eq]; exact kl2
  have hmem : ∀ l ∈ srtT eKey K, l ∈ K := fun l h => pm.mem_iff.mp h
  have hst2 : StO gs 420 440 (srtT eKey K) := ⟨fun l h => tb2.nm l (hmem l h), fun l h => tb2.q0 l (hmem l h), fun l h => (tb2.q l (hmem l h)).up hB, by omega⟩
  have hn2 : NdO 420 440 ns := ⟨hn.q0, fun q hq => (hn.q q hq).up (by decide), hn.len, hn.nd⟩
  have h0 : lackL (thereG gs day (srtT eKey K)) ns = [] := by
    unfold lackL
    rw [List.map_eq_nil_iff, List.filter_eq_nil_iff]
    intro q hq
    have := hfull q hq
    have e : thereG gs day (srtT eKey K) q.1 = avail (ovG gs day) K q.1 := avail_perm pm
    rw [e]
    simp only [decide_eq_true_eq]
    grind
  have eb2 := t_to_buy (day := day) (D := 420) (M := 440) (N := 440) (by decide) (by decide) (by decide) (by decide) hst2 hn2
  have et2 := t_told (day := day) (D := 420) (M := 440) (by decide) (by decide) (by decide) hst2 hn2
  unfold ltk at et2
  rw [h0] at eb2 et2
  simp only [List.map_nil] at eb2 et2
  have ec := xComp_typed (own := [15]) (g := tName 15) (t := xYes) (f := b_law_e1) (e := xItems (xD1 dSortedK (xVar 10))) (fr := fr52 ns0 c none (some (.dat (.tuple (gs.map eG)))) (some (.dat (.tuple (ls.map eL)))) (some (.dat (.list (ns.map eN)))) (some (.dat (.int day))) (some (.dat (.list (ns.map eN)))) (some (.dat (.list (due.map eN)))) (some (.cel 1)) none none none none [.lst d4.l, .dct true (K.map eKL)]) eKey (fun _ => true) eL (fun l => ⟨[some (.scr ns0), some (.dat (.int c)), some (.cel 0), none, some (.dat (.tuple (gs.map eG))), some (.dat (.tuple (ls.map eL))), some (.dat (.list (ns.map eN))), some (.dat (.int day)), some (.dat (.list (ns.map eN))), some (.dat (.list (due.map eN))), some (.cel 1), none, none, none, none, some (.dat (eKey l))], [.lst d4.l, .dct true (K.map eKL)], 0⟩) (srtT eKey K) (by simp [eso]) (by omega) (fun _ _ => rfl) (fun _ => rfl) (fun _ _ => rfl) (fun l hl _ => by
    have kf := kfind_mem_l tb2.nd (hmem l hl)
    have kk := kOk_key l
    unfold eKey at kf ⊢
    simp [b_law_e1, dget, kk, kf, dAdd, eL])
  rw [List.filter_eq_self.mpr (fun _ _ => rfl)] at ec
  have q5 : eqOk (.list []) (.list []) = true := eqOk_l (by simp [PyData.depth, PyData.depthAll])
  have q6 : PyData.eqv (.list []) (.list []) = true := rfl
  generalize hFL : (srtT eKey K).map eL = FL at *
  refine ⟨d4, none, some (.dat (.tuple (gs.map eG))), some (.dat (.tuple (ls.map eL))), some (.dat (.list (ns.map eN))), some (.dat (.int day)), some (.dat (.list (ns.map eN))), some (.dat (.list (due.map eN))), some (.cel 1), none, none, none, some (.dat (.tuple FL)), [.dct true (K.map eKL)], ?_, h4⟩
  unfold fr52 at el1 el2 ec
  unfold b_law_l3 fr52
  have hnl : ns.length ≤ 1000000 := by omega
  simp [e1, e2, e3, e4, et, elt, esm, ell, eb, esd, dNe, q1, q2, el1, el2, ec, eb2, et2, q5, q6, hnl]
  first
    | rfl
    | simp [isi]
theorem s52_cell {ns0 : List Int} {cell : Int} {v2 v3 v4 v5 v6 v7 v8 v9 v10 v11 v12 v13 v14 : Option AV} {cs : List Cell} : ∃ (w2 w3 w4 w5 w6 w7 w8 w9 w10 w11 w12 w13 w14 : Option AV) (cs' : List Cell), b_law_l4 ⟨[some (.scr ns0), some (.dat (.int cell)), v2, v3, v4, v5, v6, v7, v8, v9, v10, v11, v12, v13, v14, none], cs, 0⟩ = .nx ⟨[some (.scr ns0), some (.dat (.int cell)), w2, w3, w4, w5, w6, w7, w8, w9, w10, w11, w12, w13, w14, none], cs', 0⟩ := by
  obtain ⟨d, e1, h1⟩ := s_deck cell 52 (by decide) (by decide)
  have key := forA_all (g := tName 3) (b := b_law_l3) (fun done fr => ∃ (d' : Dk) (v3 v4 v5 v6 v7 v8 v9 v10 v11 v12 v13 v14 : Option AV) (cs : List Cell), fr = fr52 ns0 cell v3 v4 v5 v6 v7 v8 v9 v10 v11 v12 v13 v14 (.lst d'.l :: cs) ∧ d'.ok (87 * (5 - done.length))) (rangeD 0 5) (fr52 ns0 cell none none none none none none none none none none none none [.lst d.l]) ⟨d, none, none, none, none, none, none, none, none, none, none, none, none, [], rfl, h1.less (by decide)⟩ ?_
  · obtain ⟨fr', e, d', w3, w4, w5, w6, w7, w8, w9, w10, w11, w12, w13, w14, cs', rfl, _⟩ := key
    refine ⟨some (.cel 0), w3, w4, w5, w6, w7, w8, w9, w10, w11, w12, w13, w14, .lst d'.l :: cs', ?_⟩
    have n1 : noLs d.l = true := rfl
    unfold fr52 at e
    unfold b_law_l4
    simp [noL, e1, n1, rgOk, e]
  · rintro done y rest fr hy ⟨d', v3, v4, v5, v6, v7, v8, v9, v10, v11, v12, v13, v14, cs, rfl, hd⟩
    have hlen : done.length < 5 := by
      have := congrArg List.length hy
      rw [rangeD_len] at this
      simp at this; omega
    have hq : 87 * (5 - done.length) = 87 * (5 - (done ++ [y]).length) + 87 := by simp; omega
    rw [hq] at hd
    obtain ⟨d2, w3, w4, w5, w6, w7, w8, w9, w10, w11, w12, w13, w14, cs', e, h2⟩ := s52_turn (ns0 := ns0) (c := cell) (v3 := some (.dat y)) (v4 := v4) (v5 := v5) (v6 := v6) (v7 := v7) (v8 := v8) (v9 := v9) (v10 := v10) (v11 := v11) (v12 := v12) (v13 := v13) (v14 := v14) (cs := cs) hd
    exact ⟨_, _, rfl, .inl e, d2, w3, w4, w5, w6, w7, w8, w9, w10, w11, w12, w13, w14, cs', rfl, h2⟩
theorem s_law (ns : List Int) (h : ns.length ≤ 63) : m_law [.scr ns] [] = .ok (.dat (.bool true)) [] := by
  have key := forA_all (g := tName 1) (b := b_law_l4) (fun done fr => ∃ v1 v2 v3 v4 v5 v6 v7 v8 v9 v10 v11 v12 v13 v14 cs, fr = ⟨[some (.scr ns), v1, v2, v3, v4, v5, v6, v7, v8, v9, v10, v11, v12, v13, v14, none], cs, 0⟩) (((.int 0) :: ns.map PyData.int).take 10) ⟨[some (.scr ns), none, none, none, none, none, none, none, none, none, none, none, none, none, none, none], [], 0⟩ ⟨none, none, none, none, none, none, none, none, none, none, none, none, none, none, [], rfl⟩ ?_
  · obtain ⟨fr', e, v1, v2, v3, v4, v5, v6, v7, v8, v9, v10, v11, v12, v13, v14, cs, rfl⟩ := key
    have hl : 1 + ns.length ≤ 1000000 := by omega
    have ef := t_xtaken (gs := [⟨"egg", 1, 1, 1, []⟩]) (ls := []) (ns := []) (day := 5) (D := 1) (M := 0) (by decide) (by decide) (by decide) ⟨(fun l h => nomatch h), (fun l h => nomatch h), (fun l h => nomatch h), by decide⟩ ⟨(fun l h => nomatch h), (fun l h => nomatch h), by decide, .nil⟩ rfl
    simp [eG, takeR, takeL] at ef
    have q5 : eqOk (.tuple [.list [], .tuple []]) (.tuple [.list [], .tuple []]) = true := eqOk_l (by simp [PyData.depth, PyData.depthAll])
    have q6 : PyData.eqv (.tuple [.list [], .tuple []]) (.tuple [.list [], .tuple []]) = true := rfl
    have ct := cut_take ((.int 0) :: ns.map PyData.int) 10 (by decide)
    unfold m_law b_law
    simp [dAdd, hl, dSl, ct]
    simp at e
    simp [e, ef, dEq, q5, q6]
  · rintro done y rest fr hy ⟨v1, v2, v3, v4, v5, v6, v7, v8, v9, v10, v11, v12, v13, v14, cs, rfl⟩
    have hm : y ∈ ((PyData.int 0) :: ns.map PyData.int) := List.mem_of_mem_take (hy ▸ List.mem_append_right _ (List.mem_cons_self ..))
    obtain ⟨i, rfl⟩ : ∃ i, y = .int i := by
      rcases List.mem_cons.mp hm with rfl | hm
      · exact ⟨_, rfl⟩
      · obtain ⟨i, _, rfl⟩ := List.mem_map.mp hm
        exact ⟨i, rfl⟩
    obtain ⟨w2, w3, w4, w5, w6, w7, w8, w9, w10, w11, w12, w13, w14, cs', e⟩ := s52_cell (ns0 := ns) (cell := i) (v2 := v2) (v3 := v3) (v4 := v4) (v5 := v5) (v6 := v6) (v7 := v7) (v8 := v8) (v9 := v9) (v10 := v10) (v11 := v11) (v12 := v12) (v13 := v13) (v14 := v14) (cs := cs)
    exact ⟨_, _, rfl, .inl e, some (.dat (.int i)), w2, w3, w4, w5, w6, w7, w8, w9, w10, w11, w12, w13, w14, cs', rfl⟩
end G
namespace G
open PySem PySem.Spec PyProof.Rows L2
abbrev PW : Program := PySem.Challenge.pw_galleyward_k52_what_is_taken
def top (i : Nat) : Stmt := PW.main.body.getD i (.Pass ⟨0, 0, 0, 0⟩)
section
variable {P : Program} {w : World} {K : PySem.W.Frag} {mg : Str → Option Value} {base : Heap}
def N_divisor : List Str := ["one", "other"]
abbrev sc_divisor : Scope := L2.defScope (top 5)
theorem fs_divisor : FnScope N_divisor ["one", "other"] sc_divisor := ⟨rfl, rfl, rfl, by decide +kernel, rfl, by decide +kernel, by decide +kernel⟩
theorem d_divisor {f : Addr} {fd : FuncData} (F : FunD K "divisor" "divisor" (L2.defArgs (top 5)) (L2.defBody (top 5)) sc_divisor [] [] f fd) (hm : mg "divisor" = some (.ref f)) (h_abs : mg "abs" = none) : DefF P w K mg base CX0 C0 1 "divisor" 2 m_divisor := by
  have G : FnOk P w K mg base CX0 (0 + 1) f fd ["one", "other"] (spF ⟨P, w, K⟩ C0 m_divisor 2) :=
    fn_g (k := 0) (N := N_divisor) (ps := ["one", "other"]) (C := C0) (b := b_divisor) F fs_divisor fun cdv A outer s H E hr => by
      have hnd := fs_divisor.nd
      exact (as_cons (as_par (i := 0) (j := 1) rfl hnd rfl rfl (by decide) rfl rfl (aa_cons (ae_callB c_abs rfl h_abs boot_abs' (aa_cons (ae_var (i := 0) rfl (.inl rfl)) (aa_nil))) (aa_cons (ae_callB c_abs rfl h_abs boot_abs' (aa_cons (ae_var (i := 1) rfl (.inl rfl)) (aa_nil))) (aa_nil))) (by rfl))
    (as_cons (as_while (fun fr => natOf 1 fr + 2) (passes_of rfl) (at_cmp (o_ne hr.units) (ae_var (i := 1) rfl (.inl rfl)) (ae_int) (nomark _)) (as_one (as_par (i := 0) (j := 1) rfl hnd rfl rfl (by decide) rfl rfl (aa_cons (ae_var (i := 1) rfl (.inl rfl)) (aa_cons (ae_bin o_mod (ae_var (i := 0) rfl (.inl rfl)) (ae_var (i := 1) rfl (.inl rfl))) (aa_nil))) (by rfl))))
    (ass_kill [1] (as_one (as_ret (ae_var (i := 0) rfl (.inl rfl)))))))
  exact ⟨⟨f, fd, ["one", "other"], G, hm, F.kp, (F.bindsN fun _ _ _ _ _ _ us hl => match us, hl with | [_, _], _ => rfl)⟩⟩

def N_fraction : List Str := ["top", "bottom", "by"]
abbrev sc_fraction : Scope := L2.defScope (top 6)
theorem fs_fraction : FnScope N_fraction ["top", "bottom"] sc_fraction := ⟨rfl, rfl, rfl, by decide +kernel, rfl, by decide +kernel, by decide +kernel⟩
theorem d_fraction {f : Addr} {fd : FuncData} (F : FunD K "fraction" "fraction" (L2.defArgs (top 6)) (L2.defBody (top 6)) sc_fraction [] [] f fd) (hm : mg "fraction" = some (.ref f)) (D_divisor : DefF P w K mg base CX0 C0 1 "divisor" 2 m_divisor) : DefF P w K mg base CX0 C0 2 "fraction" 2 m_fraction := by
  have G : FnOk P w K mg base CX0 (1 + 1) f fd ["top", "bottom"] (spF ⟨P, w, K⟩ C0 m_fraction 2) :=
    fn_g (k := 1) (N := N_fraction) (ps := ["top", "bottom"]) (C := C0) (b := b_fraction) F fs_fraction fun cdv A outer s H E hr => by
      have hnd := fs_fraction.nd
      exact (as_cons (as_set (i := 2) hnd rfl (.inl rfl) (ae_call D_divisor hr (by omega) pass_0 rfl (aa_cons (ae_var (i := 0) rfl (.inl rfl)) (aa_cons (ae_var (i := 1) rfl (.inl rfl)) (aa_nil))) (nc_cons (nc_cons (nc_nil)))))
    (as_one (as_ret (ae_tup (aa_cons (ae_bin o_fdiv (ae_var (i := 0) rfl (.inl rfl)) (ae_var (i := 2) rfl (.inl rfl))) (aa_cons (ae_bin o_fdiv (ae_var (i := 1) rfl (.inl rfl)) (ae_var (i := 2) rfl (.inl rfl))) (aa_nil))) (by decide) (nc_cons (nc_cons (nc_nil)))))))
  exact ⟨⟨f, fd, ["top", "bottom"], G, hm, F.kp, (F.bindsN fun _ _ _ _ _ _ us hl => match us, hl with | [_, _], _ => rfl)⟩⟩

def N_plus : List Str := ["one", "other"]
abbrev sc_plus : Scope := L2.defScope (top 7)
theorem fs_plus : FnScope N_plus ["one", "other"] sc_plus := ⟨rfl, rfl, rfl, by decide +kernel, rfl, by decide +kernel, by decide +kernel⟩
theorem d_plus {f : Addr} {fd : FuncData} (F : FunD K "plus" "plus" (L2.defArgs (top 7)) (L2.defBody (top 7)) sc_plus [] [] f fd) (hm : mg "plus" = some (.ref f)) (D_fraction : DefF P w K mg base CX0 C0 2 "fraction" 2 m_fraction) : DefF P w K mg base CX0 C0 3 "plus" 2 m_plus := by
  have G : FnOk P w K mg base CX0 (2 + 1) f fd ["one", "other"] (spF ⟨P, w, K⟩ C0 m_plus 2) :=
    fn_g (k := 2) (N := N_plus) (ps := ["one", "other"]) (C := C0) (b := b_plus) F fs_plus fun cdv A outer s H E hr => by
      have hnd := fs_plus.nd
      exact (as_one (as_ret (ae_call D_fraction hr (by omega) pass_0 rfl (aa_cons (ae_bin o_add (ae_bin o_mul (ae_ix (ae_var (i := 0) rfl (.inl rfl)) (ae_int)) (ae_ix (ae_var (i := 1) rfl (.inl rfl)) (ae_int))) (ae_bin o_mul (ae_ix (ae_var (i := 1) rfl (.inl rfl)) (ae_int)) (ae_ix (ae_var (i := 0) rfl (.inl rfl)) (ae_int)))) (aa_cons (ae_bin o_mul (ae_ix (ae_var (i := 0) rfl (.inl rfl)) (ae_int)) (ae_ix (ae_var (i := 1) rfl (.inl rfl)) (ae_int))) (aa_nil))) (nc_cons (nc_cons (nc_nil))))))
  exact ⟨⟨f, fd, ["one", "other"], G, hm, F.kp, (F.bindsN fun _ _ _ _ _ _ us hl => match us, hl with | [_, _], _ => rfl)⟩⟩

def N_minus : List Str := ["one", "other"]
abbrev sc_minus : Scope := L2.defScope (top 8)
theorem fs_minus : FnScope N_minus ["one", "other"] sc_minus := ⟨rfl, rfl, rfl, by decide +kernel, rfl, by decide +kernel, by decide +kernel⟩
theorem d_minus {f : Addr} {fd : FuncData} (F : FunD K "minus" "minus" (L2.defArgs (top 8)) (L2.defBody (top 8)) sc_minus [] [] f fd) (hm : mg "minus" = some (.ref f)) (D_fraction : DefF P w K mg base CX0 C0 2 "fraction" 2 m_fraction) : DefF P w K mg base CX0 C0 3 "minus" 2 m_minus := by
  have G : FnOk P w K mg base CX0 (2 + 1) f fd ["one", "other"] (spF ⟨P, w, K⟩ C0 m_minus 2) :=
    fn_g (k := 2) (N := N_minus) (ps := ["one", "other"]) (C := C0) (b := b_minus) F fs_minus fun cdv A outer s H E hr => by
      have hnd := fs_minus.nd
      exact (as_one (as_ret (ae_call D_fraction hr (by omega) pass_0 rfl (aa_cons (ae_bin o_sub (ae_bin o_mul (ae_ix (ae_var (i := 0) rfl (.inl rfl)) (ae_int)) (ae_ix (ae_var (i := 1) rfl (.inl rfl)) (ae_int))) (ae_bin o_mul (ae_ix (ae_var (i := 1) rfl (.inl rfl)) (ae_int)) (ae_ix (ae_var (i := 0) rfl (.inl rfl)) (ae_int)))) (aa_cons (ae_bin o_mul (ae_ix (ae_var (i := 0) rfl (.inl rfl)) (ae_int)) (ae_ix (ae_var (i := 1) rfl (.inl rfl)) (ae_int))) (aa_nil))) (nc_cons (nc_cons (nc_nil))))))
  exact ⟨⟨f, fd, ["one", "other"], G, hm, F.kp, (F.bindsN fun _ _ _ _ _ _ us hl => match us, hl with | [_, _], _ => rfl)⟩⟩

def N_is_less : List Str := ["one", "other"]
abbrev sc_is_less : Scope := L2.defScope (top 9)
theorem fs_is_less : FnScope N_is_less ["one", "other"] sc_is_less := ⟨rfl, rfl, rfl, by decide +kernel, rfl, by decide +kernel, by decide +kernel⟩
theorem d_is_less {f : Addr} {fd : FuncData} (F : FunD K "is_less" "is_less" (L2.defArgs (top 9)) (L2.defBody (top 9)) sc_is_less [] [] f fd) (hm : mg "is_less" = some (.ref f))  : DefF P w K mg base CX0 C0 1 "is_less" 2 m_is_less := by
  have G : FnOk P w K mg base CX0 (0 + 1) f fd ["one", "other"] (spF ⟨P, w, K⟩ C0 m_is_less 2) :=
    fn_g (k := 0) (N := N_is_less) (ps := ["one", "other"]) (C := C0) (b := b_is_less) F fs_is_less fun cdv A outer s H E hr => by
      have hnd := fs_is_less.nd
      exact (as_one (as_ret (ae_cmp (o_lt hr.units) (ae_bin o_mul (ae_ix (ae_var (i := 0) rfl (.inl rfl)) (ae_int)) (ae_ix (ae_var (i := 1) rfl (.inl rfl)) (ae_int))) (ae_bin o_mul (ae_ix (ae_var (i := 1) rfl (.inl rfl)) (ae_int)) (ae_ix (ae_var (i := 0) rfl (.inl rfl)) (ae_int))) (nomark _))))
  exact ⟨⟨f, fd, ["one", "other"], G, hm, F.kp, (F.bindsN fun _ _ _ _ _ _ us hl => match us, hl with | [_, _], _ => rfl)⟩⟩

def N_good_of : List Str := ["goods", "name", "good"]
abbrev sc_good_of : Scope := L2.defScope (top 10)
theorem fs_good_of : FnScope N_good_of ["goods", "name"] sc_good_of := ⟨rfl, rfl, rfl, by decide +kernel, rfl, by decide +kernel, by decide +kernel⟩
theorem d_good_of {f : Addr} {fd : FuncData} (F : FunD K "good_of" "good_of" (L2.defArgs (top 10)) (L2.defBody (top 10)) sc_good_of [] [] f fd) (hm : mg "good_of" = some (.ref f))  : DefF P w K mg base CX0 C0 1 "good_of" 2 m_good_of := by
  have G : FnOk P w K mg base CX0 (0 + 1) f fd ["goods", "name"] (spF ⟨P, w, K⟩ C0 m_good_of 2) :=
    fn_g (k := 0) (N := N_good_of) (ps := ["goods", "name"]) (C := C0) (b := b_good_of) F fs_good_of fun cdv A outer s H E hr => by
      have hnd := fs_good_of.nd
      exact (as_cons (as_for (passes_of rfl) rfl (ai_seq (ae_var (i := 0) rfl (.inl rfl))) (ag_name (i := 2) hnd rfl (.inl rfl)) (as_one (as_if (at_cmp (o_eq hr.units) (ae_ix (ae_var (i := 2) rfl (.inl rfl)) (ae_int)) (ae_var (i := 1) rfl (.inl rfl)) (nomark _)) (as_one (as_ret (ae_var (i := 2) rfl (.inl rfl)))) (as_nil))))
    (ass_kill [2] (as_one (as_ret (ae_non)))))
  exact ⟨⟨f, fd, ["goods", "name"], G, hm, F.kp, (F.bindsN fun _ _ _ _ _ _ us hl => match us, hl with | [_, _], _ => rfl)⟩⟩

def N_is_over : List Str := ["goods", "lot", "day"]
abbrev sc_is_over : Scope := L2.defScope (top 12)
theorem fs_is_over : FnScope N_is_over ["goods", "lot", "day"] sc_is_over := ⟨rfl, rfl, rfl, by decide +kernel, rfl, by decide +kernel, by decide +kernel⟩
theorem d_is_over {f : Addr} {fd : FuncData} (F : FunD K "is_over" "is_over" (L2.defArgs (top 12)) (L2.defBody (top 12)) sc_is_over [] [] f fd) (hm : mg "is_over" = some (.ref f)) (D_good_of : DefF P w K mg base CX0 C0 1 "good_of" 2 m_good_of) : DefF P w K mg base CX0 C0 2 "is_over" 3 m_is_over := by
  have G : FnOk P w K mg base CX0 (1 + 1) f fd ["goods", "lot", "day"] (spF ⟨P, w, K⟩ C0 m_is_over 3) :=
    fn_g (k := 1) (N := N_is_over) (ps := ["goods", "lot", "day"]) (C := C0) (b := b_is_over) F fs_is_over fun cdv A outer s H E hr => by
      have hnd := fs_is_over.nd
      exact (as_one (as_ret (ae_cmp o_gt (ae_var (i := 2) rfl (.inl rfl)) (ae_bin o_add (ae_ix (ae_var (i := 1) rfl (.inl rfl)) (ae_int)) (ae_ix (ae_call D_good_of hr (by omega) pass_0 rfl (aa_cons (ae_var (i := 0) rfl (.inl rfl)) (aa_cons (ae_ix (ae_var (i := 1) rfl (.inl rfl)) (ae_int)) (aa_nil))) (nc_cons (nc_cons (nc_nil)))) (ae_int))) (nomark _))))
  exact ⟨⟨f, fd, ["goods", "lot", "day"], G, hm, F.kp, (F.bindsN fun _ _ _ _ _ _ us hl => match us, hl with | [_, _, _], _ => rfl)⟩⟩

def N_lacking : List Str := ["goods", "store", "needs", "day", "found", "name", "grams", "there", "lot"]
abbrev sc_lacking : Scope := L2.defScope (top 13)
theorem fs_lacking : FnScope N_lacking ["goods", "store", "needs", "day"] sc_lacking := ⟨rfl, rfl, rfl, by decide +kernel, rfl, by decide +kernel, by decide +kernel⟩
theorem d_lacking {f : Addr} {fd : FuncData} (F : FunD K "lacking" "lacking" (L2.defArgs (top 13)) (L2.defBody (top 13)) sc_lacking [] [] f fd) (hm : mg "lacking" = some (.ref f)) {a_NOUGHT : Addr} (c_NOUGHT : mg "NOUGHT" = some (.ref a_NOUGHT) ∧ ∀ H, SqT K H a_NOUGHT [.int 0, .int 1]) (D_plus : DefF P w K mg base CX0 C0 3 "plus" 2 m_plus) (D_minus : DefF P w K mg base CX0 C0 3 "minus" 2 m_minus) (D_is_less : DefF P w K mg base CX0 C0 1 "is_less" 2 m_is_less) (D_is_over : DefF P w K mg base CX0 C0 2 "is_over" 3 m_is_over) : DefF P w K mg base CX0 C0 4 "lacking" 4 m_lacking := by
  have G : FnOk P w K mg base CX0 (3 + 1) f fd ["goods", "store", "needs", "day"] (spF ⟨P, w, K⟩ C0 m_lacking 4) :=
    fn_g (k := 3) (N := N_lacking) (ps := ["goods", "store", "needs", "day"]) (C := C0) (b := b_lacking) F fs_lacking fun cdv A outer s H E hr => by
      have hnd := fs_lacking.nd
      exact (as_cons (as_set (i := 4) hnd rfl (.inl rfl) (ae_newL (aa_nil) (by decide) (nc_nil)))
    (as_cons (as_for (passes_of rfl) rfl (ai_seq (ae_var (i := 2) rfl (.inl rfl))) (ag_tup rfl (ags_cons (i := 5) hnd rfl (.inl rfl) (ags_cons (i := 6) hnd rfl (.inl rfl) (ags_nil))) rfl) (ass_kill [7, 8] (as_cons (as_set (i := 7) hnd rfl (.inl rfl) (ae_gtup rfl c_NOUGHT.1 c_NOUGHT.2 (fun _ _ => .cons (.int 0) (.cons (.int 1) .nil))))
    (as_cons (as_for (passes_of rfl) rfl (ai_seq (ae_var (i := 1) rfl (.inl rfl))) (ag_name (i := 8) hnd rfl (.inl rfl)) (as_one (as_if (at_w (aw_and (at_cmp (o_eq hr.units) (ae_ix (ae_var (i := 8) rfl (.inl rfl)) (ae_int)) (ae_var (i := 5) rfl (.inl rfl)) (nomark _)) (aw_and1 (at_not (at_val (ae_call D_is_over hr (by omega) pass_0 rfl (aa_cons (ae_var (i := 0) rfl (.inl rfl)) (aa_cons (ae_var (i := 8) rfl (.inl rfl)) (aa_cons (ae_var (i := 3) rfl (.inl rfl)) (aa_nil)))) (nc_cons (nc_cons (nc_cons (nc_nil)))))))))) (as_one (as_set (i := 7) hnd rfl (.inl rfl) (ae_call D_plus hr (by omega) pass_0 rfl (aa_cons (ae_var (i := 7) rfl (.inl rfl)) (aa_cons (ae_ix (ae_var (i := 8) rfl (.inl rfl)) (ae_int)) (aa_nil))) (nc_cons (nc_cons (nc_nil)))))) (as_nil))))
    (ass_kill [8] (as_one (as_if (at_val (ae_call D_is_less hr (by omega) pass_0 rfl (aa_cons (ae_var (i := 7) rfl (.inl rfl)) (aa_cons (ae_var (i := 6) rfl (.inl rfl)) (aa_nil))) (nc_cons (nc_cons (nc_nil))))) (as_one (as_app (i := 4) rfl (.inl rfl) (ae_tup (aa_cons (ae_var (i := 5) rfl (.inl rfl)) (aa_cons (ae_call D_minus hr (by omega) pass_0 rfl (aa_cons (ae_var (i := 6) rfl (.inl rfl)) (aa_cons (ae_var (i := 7) rfl (.inl rfl)) (aa_nil))) (nc_cons (nc_cons (nc_nil)))) (aa_nil))) (by decide) (nc_cons (nc_cons (nc_nil)))))) (as_nil))))))))
    (ass_kill [5, 6, 7, 8] (as_one (as_ret (ae_var (i := 4) rfl (.inl rfl)))))))
  exact ⟨⟨f, fd, ["goods", "store", "needs", "day"], G, hm, F.kp, (F.bindsN fun _ _ _ _ _ _ us hl => match us, hl with | [_, _, _, _], _ => rfl)⟩⟩

def N_to_buy : List Str := ["goods", "store", "needs", "day"]
abbrev sc_to_buy : Scope := L2.defScope (top 14)
theorem fs_to_buy : FnScope N_to_buy ["goods", "store", "needs", "day"] sc_to_buy := ⟨rfl, rfl, rfl, by decide +kernel, rfl, by decide +kernel, by decide +kernel⟩
theorem d_to_buy {f : Addr} {fd : FuncData} (F : FunD K "to_buy" "to_buy" (L2.defArgs (top 14)) (L2.defBody (top 14)) sc_to_buy [] [] f fd) (hm : mg "to_buy" = some (.ref f)) (D_lacking : DefF P w K mg base CX0 C0 4 "lacking" 4 m_lacking) : DefF P w K mg base CX0 C0 5 "to_buy" 4 m_to_buy := by
  have G : FnOk P w K mg base CX0 (4 + 1) f fd ["goods", "store", "needs", "day"] (spF ⟨P, w, K⟩ C0 m_to_buy 4) :=
    fn_g (k := 4) (N := N_to_buy) (ps := ["goods", "store", "needs", "day"]) (C := C0) (b := b_to_buy) F fs_to_buy fun cdv A outer s H E hr => by
      have hnd := fs_to_buy.nd
      exact (as_one (as_ret (ae_call D_lacking hr (by omega) pass_0 rfl (aa_cons (ae_var (i := 0) rfl (.inl rfl)) (aa_cons (ae_var (i := 1) rfl (.inl rfl)) (aa_cons (ae_var (i := 2) rfl (.inl rfl)) (aa_cons (ae_var (i := 3) rfl (.inl rfl)) (aa_nil))))) (nc_cons (nc_cons (nc_cons (nc_cons (nc_nil))))))))
  exact ⟨⟨f, fd, ["goods", "store", "needs", "day"], G, hm, F.kp, (F.bindsN fun _ _ _ _ _ _ us hl => match us, hl with | [_, _, _, _], _ => rfl)⟩⟩

def N_taken : List Str := ["goods", "store", "needs", "day", "name", "grams", "left", "rows", "rest", "lot", "want", "part"]
abbrev sc_taken : Scope := L2.defScope (top 15)
theorem fs_taken : FnScope N_taken ["goods", "store", "needs", "day"] sc_taken := ⟨rfl, rfl, rfl, by decide +kernel, rfl, by decide +kernel, by decide +kernel⟩
theorem d_taken {f : Addr} {fd : FuncData} (F : FunD K "taken" "taken" (L2.defArgs (top 15)) (L2.defBody (top 15)) sc_taken [] [] f fd) (hm : mg "taken" = some (.ref f)) (h_dict : mg "dict" = none) (h_tuple : mg "tuple" = none) {a_NOUGHT : Addr} (c_NOUGHT : mg "NOUGHT" = some (.ref a_NOUGHT) ∧ ∀ H, SqT K H a_NOUGHT [.int 0, .int 1]) (R_Lacks : RaC P w K mg base "Lacks" ["good", "grams"]) (D_minus : DefF P w K mg base CX0 C0 3 "minus" 2 m_minus) (D_is_less : DefF P w K mg base CX0 C0 1 "is_less" 2 m_is_less) (D_is_over : DefF P w K mg base CX0 C0 2 "is_over" 3 m_is_over) (D_lacking : DefF P w K mg base CX0 C0 4 "lacking" 4 m_lacking) : DefF P w K mg base (L2.CX P w) (CG K) 5 "taken" 4 m_X_taken := by
  have G : FnOk P w K mg base (L2.CX P w) (4 + 1) f fd ["goods", "store", "needs", "day"] (spF ⟨P, w, K⟩ (CG K) m_X_taken 4) :=
    fn_g (k := 4) (N := N_taken) (ps := ["goods", "store", "needs", "day"]) (C := (CG K)) (b := b_X_taken) F fs_taken fun cdv A outer s H E hr => by
      have hnd := fs_taken.nd
      exact (as_cons (as_for (passes_of rfl) rfl (ai_seq (ae_call (DefF.up D_lacking) hr (by omega) pass_0 rfl (aa_cons (ae_var (i := 0) rfl (.inl rfl)) (aa_cons (ae_var (i := 1) rfl (.inl rfl)) (aa_cons (ae_var (i := 2) rfl (.inl rfl)) (aa_cons (ae_var (i := 3) rfl (.inl rfl)) (aa_nil))))) (nc_cons (nc_cons (nc_cons (nc_cons (nc_nil))))))) (ag_tup rfl (ags_cons (i := 4) hnd rfl (.inl rfl) (ags_cons (i := 5) hnd rfl (.inl rfl) (ags_nil))) rfl) (as_one (as_raiseC (fields := ["good", "grams"]) R_Lacks (by decide) (by decide) rfl hr (by omega) (takes_of rfl rfl rfl rfl) rfl rfl (aa_cons (ae_var (i := 4) rfl (.inl rfl)) (aa_cons (ae_var (i := 5) rfl (.inl rfl)) (aa_nil))))))
    (ass_kill [4, 5] (as_cons (as_set (i := 6) hnd rfl (.inl rfl) (ae_dictF rfl rfl h_dict (ae_var (i := 2) rfl (.inl rfl))))
    (as_cons (as_par (i := 7) (j := 8) rfl hnd rfl rfl (by decide) rfl rfl (aa_cons (ae_newL (aa_nil) (by decide) (nc_nil)) (aa_cons (ae_newL (aa_nil) (by decide) (nc_nil)) (aa_nil))) (by rfl))
    (as_cons (as_for (passes_of rfl) rfl (ai_seq (ae_var (i := 1) rfl (.inl rfl))) (ag_name (i := 9) hnd rfl (.inl rfl)) (ass_kill [10, 11] (as_cons (as_set (i := 10) hnd rfl (.inl rfl) (ae_if (at_val (ae_call (DefF.up D_is_over) hr (by omega) pass_0 rfl (aa_cons (ae_var (i := 0) rfl (.inl rfl)) (aa_cons (ae_var (i := 9) rfl (.inl rfl)) (aa_cons (ae_var (i := 3) rfl (.inl rfl)) (aa_nil)))) (nc_cons (nc_cons (nc_cons (nc_nil)))))) (ae_gtup rfl c_NOUGHT.1 c_NOUGHT.2 (fun _ _ => .cons (.int 0) (.cons (.int 1) .nil))) (ae_dgetD hr.units (ae_var (i := 6) rfl (.inl rfl)) (ae_ix (ae_var (i := 9) rfl (.inl rfl)) (ae_int)) (ae_gtup rfl c_NOUGHT.1 c_NOUGHT.2 (fun _ _ => .cons (.int 0) (.cons (.int 1) .nil))) ⟨rfl, rfl, rfl, rfl⟩)))
    (as_cons (as_set (i := 11) hnd rfl (.inl rfl) (ae_if (at_val (ae_call (DefF.up D_is_less) hr (by omega) pass_0 rfl (aa_cons (ae_ix (ae_var (i := 9) rfl (.inl rfl)) (ae_int)) (aa_cons (ae_var (i := 10) rfl (.inl rfl)) (aa_nil))) (nc_cons (nc_cons (nc_nil))))) (ae_ix (ae_var (i := 9) rfl (.inl rfl)) (ae_int)) (ae_var (i := 10) rfl (.inl rfl))))
    (as_cons (as_if (at_cmp o_gt (ae_ix (ae_var (i := 11) rfl (.inl rfl)) (ae_int)) (ae_int) (nomark _)) (as_cons (as_app (i := 7) rfl (.inl rfl) (ae_bin o_add (ae_sl (ae_var (i := 9) rfl (.inl rfl)) (ao_none) (ao_some (ae_int))) (ae_tup (aa_cons (ae_var (i := 11) rfl (.inl rfl)) (aa_nil)) (by decide) (nc_cons (nc_nil)))))
    (as_one (as_dset (i := 6) hr.units rfl (.inl rfl) (ae_ix (ae_var (i := 9) rfl (.inl rfl)) (ae_int)) (ae_call (DefF.up D_minus) hr (by omega) pass_0 rfl (aa_cons (ae_var (i := 10) rfl (.inl rfl)) (aa_cons (ae_var (i := 11) rfl (.inl rfl)) (aa_nil))) (nc_cons (nc_cons (nc_nil))))))) (as_nil))
    (as_one (as_if (at_cmp (o_ne hr.units) (ae_var (i := 11) rfl (.inl rfl)) (ae_ix (ae_var (i := 9) rfl (.inl rfl)) (ae_int)) (nomark _)) (as_one (as_app (i := 8) rfl (.inl rfl) (ae_bin o_add (ae_sl (ae_var (i := 9) rfl (.inl rfl)) (ao_none) (ao_some (ae_int))) (ae_tup (aa_cons (ae_call (DefF.up D_minus) hr (by omega) pass_0 rfl (aa_cons (ae_ix (ae_var (i := 9) rfl (.inl rfl)) (ae_int)) (aa_cons (ae_var (i := 11) rfl (.inl rfl)) (aa_nil))) (nc_cons (nc_cons (nc_nil)))) (aa_nil)) (by decide) (nc_cons (nc_nil)))))) (as_nil))))))))
    (ass_kill [9, 10, 11] (as_one (as_frzM 7 (as_ret (ae_tup (aa_cons (ae_var (i := 7) rfl (.inl rfl)) (aa_cons (ae_callT c_tuple rfl h_tuple boot_tuple' (aa_cons (ae_var (i := 8) rfl (.inl rfl)) (aa_nil))) (aa_nil))) (by decide) (nc_cons (nc_cons (nc_nil)))))))))))))
  exact ⟨⟨f, fd, ["goods", "store", "needs", "day"], G, hm, F.kp, (F.bindsN fun _ _ _ _ _ _ us hl => match us, hl with | [_, _, _, _], _ => rfl)⟩⟩

def N__law_deck : List Str := ["_law_cell", "_law_turn"]
abbrev sc__law_deck : Scope := L2.defScope (top 17)
theorem fs__law_deck : FnScope N__law_deck ["_law_cell", "_law_turn"] sc__law_deck := ⟨rfl, rfl, rfl, by decide +kernel, rfl, by decide +kernel, by decide +kernel⟩
theorem d__law_deck {f : Addr} {fd : FuncData} (F : FunD K "_law_deck" "_law_deck" (L2.defArgs (top 17)) (L2.defBody (top 17)) sc__law_deck [] [] f fd) (hm : mg "_law_deck" = some (.ref f))  : DefF P w K mg base CX0 C0 1 "_law_deck" 2 m__law_deck := by
  have G : FnOk P w K mg base CX0 (0 + 1) f fd ["_law_cell", "_law_turn"] (spF ⟨P, w, K⟩ C0 m__law_deck 2) :=
    fn_g (k := 0) (N := N__law_deck) (ps := ["_law_cell", "_law_turn"]) (C := C0) (b := b__law_deck) F fs__law_deck fun cdv A outer s H E hr => by
      have hnd := fs__law_deck.nd
      exact (as_cons (as_if (at_cmp o_ge (ae_var (i := 0) rfl (.inl rfl)) (ae_bin o_pow (ae_int) (ae_int)) (nomark _)) (as_one (as_ret (ae_lst (aa_cons (ae_bin o_sub (ae_var (i := 0) rfl (.inl rfl)) (ae_bin o_pow (ae_int) (ae_int))) (aa_cons (ae_bin o_mod (ae_var (i := 0) rfl (.inl rfl)) (ae_int)) (aa_cons (ae_var (i := 1) rfl (.inl rfl)) (aa_nil)))) (by decide) (nc_cons (nc_cons (nc_cons (nc_nil))))))) (as_nil))
    (as_one (as_ret (ae_lst (aa_cons (ae_int) (aa_cons (ae_bin o_mod (ae_var (i := 0) rfl (.inl rfl)) (ae_int)) (aa_cons (ae_var (i := 1) rfl (.inl rfl)) (aa_nil)))) (by decide) (nc_cons (nc_cons (nc_cons (nc_nil))))))))
  exact ⟨⟨f, fd, ["_law_cell", "_law_turn"], G, hm, F.kp, (F.bindsN fun _ _ _ _ _ _ us hl => match us, hl with | [_, _], _ => rfl)⟩⟩

def N__law_pick : List Str := ["_law_deck_here", "_law_size", "_law_found", "_law_number"]
abbrev sc__law_pick : Scope := L2.defScope (top 18)
theorem fs__law_pick : FnScope N__law_pick ["_law_deck_here", "_law_size"] sc__law_pick := ⟨rfl, rfl, rfl, by decide +kernel, rfl, by decide +kernel, by decide +kernel⟩
theorem d__law_pick {f : Addr} {fd : FuncData} (F : FunD K "_law_pick" "_law_pick" (L2.defArgs (top 18)) (L2.defBody (top 18)) sc__law_pick [] [] f fd) (hm : mg "_law_pick" = some (.ref f))  : DefF P w K mg base CX0 C0 1 "_law_pick" 2 m__law_pick := by
  have G : FnOk P w K mg base CX0 (0 + 1) f fd ["_law_deck_here", "_law_size"] (spF ⟨P, w, K⟩ C0 m__law_pick 2) :=
    fn_g (k := 0) (N := N__law_pick) (ps := ["_law_deck_here", "_law_size"]) (C := C0) (b := b__law_pick) F fs__law_pick fun cdv A outer s H E hr => by
      have hnd := fs__law_pick.nd
      exact (as_cons (as_if (at_cmp o_gt (ae_ix (ae_var (i := 0) rfl (.inl rfl)) (ae_int)) (ae_int) (nomark _)) (as_cons (as_set (i := 2) hnd rfl (.inl rfl) (ae_bin o_mod (ae_ix (ae_var (i := 0) rfl (.inl rfl)) (ae_int)) (ae_var (i := 1) rfl (.inl rfl))))
    (as_cons (as_setIx (i := 0) rfl (.inl rfl) (ae_int) (ae_bin o_fdiv (ae_ix (ae_var (i := 0) rfl (.inl rfl)) (ae_int)) (ae_var (i := 1) rfl (.inl rfl))))
    (as_one (as_ret (ae_var (i := 2) rfl (.inl rfl)))))) (as_nil))
    (as_cons (as_setIx (i := 0) rfl (.inl rfl) (ae_int) (ae_bin o_add (ae_ix (ae_var (i := 0) rfl (.inl rfl)) (ae_int)) (ae_int)))
    (as_cons (as_set (i := 3) hnd rfl (.inl rfl) (ae_bin o_mod (ae_bin o_pow (ae_bin o_add (ae_ix (ae_var (i := 0) rfl (.inl rfl)) (ae_int)) (ae_bin o_mul (ae_int) (ae_ix (ae_var (i := 0) rfl (.inl rfl)) (ae_int)))) (ae_int)) (ae_int)))
    (as_cons (as_set (i := 2) hnd rfl (.inl rfl) (ae_bin o_fdiv (ae_bin o_mod (ae_bin o_pow (ae_bin o_add (ae_var (i := 3) rfl (.inl rfl)) (ae_bin o_mul (ae_int) (ae_ix (ae_var (i := 0) rfl (.inl rfl)) (ae_int)))) (ae_int)) (ae_int)) (ae_int)))
    (as_one (as_ret (ae_bin o_mod (ae_var (i := 2) rfl (.inl rfl)) (ae_var (i := 1) rfl (.inl rfl)))))))))
  exact ⟨⟨f, fd, ["_law_deck_here", "_law_size"], G, hm, F.kp, (F.bindsN fun _ _ _ _ _ _ us hl => match us, hl with | [_, _], _ => rfl)⟩⟩

def N__law_one : List Str := ["_law_deck_here", "_law_some"]
abbrev sc__law_one : Scope := L2.defScope (top 19)
theorem fs__law_one : FnScope N__law_one ["_law_deck_here", "_law_some"] sc__law_one := ⟨rfl, rfl, rfl, by decide +kernel, rfl, by decide +kernel, by decide +kernel⟩
theorem d__law_one {f : Addr} {fd : FuncData} (F : FunD K "_law_one" "_law_one" (L2.defArgs (top 19)) (L2.defBody (top 19)) sc__law_one [] [] f fd) (hm : mg "_law_one" = some (.ref f)) (h_len : mg "len" = none) (D__law_pick : DefF P w K mg base CX0 C0 1 "_law_pick" 2 m__law_pick) : DefF P w K mg base CX0 C0 2 "_law_one" 2 m__law_one := by
  have G : FnOk P w K mg base CX0 (1 + 1) f fd ["_law_deck_here", "_law_some"] (spF ⟨P, w, K⟩ C0 m__law_one 2) :=
    fn_g (k := 1) (N := N__law_one) (ps := ["_law_deck_here", "_law_some"]) (C := C0) (b := b__law_one) F fs__law_one fun cdv A outer s H E hr => by
      have hnd := fs__law_one.nd
      exact (as_one (as_ret (ae_ix (ae_var (i := 1) rfl (.inl rfl)) (ae_call D__law_pick hr (by omega) pass_0 rfl (aa_cons (ae_var (i := 0) rfl (.inl rfl)) (aa_cons (ae_callB c_len rfl h_len boot_len' (aa_cons (ae_var (i := 1) rfl (.inl rfl)) (aa_nil))) (aa_nil))) (nc_cons (nc_cons (nc_nil)))))))
  exact ⟨⟨f, fd, ["_law_deck_here", "_law_some"], G, hm, F.kp, (F.bindsN fun _ _ _ _ _ _ us hl => match us, hl with | [_, _], _ => rfl)⟩⟩

def N__law_sort : List Str := ["_law_thing"]
abbrev sc__law_sort : Scope := L2.defScope (top 20)
theorem fs__law_sort : FnScope N__law_sort ["_law_thing"] sc__law_sort := ⟨rfl, rfl, rfl, by decide +kernel, rfl, by decide +kernel, by decide +kernel⟩
theorem d__law_sort {f : Addr} {fd : FuncData} (F : FunD K "_law_sort" "_law_sort" (L2.defArgs (top 20)) (L2.defBody (top 20)) sc__law_sort [] [] f fd) (hm : mg "_law_sort" = some (.ref f)) (h_bool : mg "bool" = none) (h_int : mg "int" = none) (h_isinstance : mg "isinstance" = none) (h_list : mg "list" = none) (h_tuple : mg "tuple" = none) : DefF P w K mg base CX0 C0 1 "_law_sort" 1 m__law_sort := by
  have G : FnOk P w K mg base CX0 (0 + 1) f fd ["_law_thing"] (spF ⟨P, w, K⟩ C0 m__law_sort 1) :=
    fn_g (k := 0) (N := N__law_sort) (ps := ["_law_thing"]) (C := C0) (b := b__law_sort) F fs__law_sort fun cdv A outer s H E hr => by
      have hnd := fs__law_sort.nd
      exact (as_cons (as_if (at_val (ae_is1 tyOk_bool rfl h_isinstance rfl h_bool boot_bool' (ae_var (i := 0) rfl (.inl rfl)))) (as_one (as_ret (ae_str))) (as_nil))
    (as_cons (as_if (at_val (ae_is1 tyOk_int rfl h_isinstance rfl h_int boot_int' (ae_var (i := 0) rfl (.inl rfl)))) (as_one (as_ret (ae_str))) (as_nil))
    (as_cons (as_if (at_val (ae_is1 tyOk_tuple rfl h_isinstance rfl h_tuple boot_tuple' (ae_var (i := 0) rfl (.inl rfl)))) (as_one (as_ret (ae_str))) (as_nil))
    (as_one (as_ret (ae_if (at_val (ae_is1 tyOk_list rfl h_isinstance rfl h_list boot_list' (ae_var (i := 0) rfl (.inl rfl)))) (ae_str) (ae_str)))))))
  exact ⟨⟨f, fd, ["_law_thing"], G, hm, F.kp, (F.bindsN fun _ _ _ _ _ _ us hl => match us, hl with | [_], _ => rfl)⟩⟩

def N__law_same : List Str := ["_law_told_here", "_law_due", "_law_k", "_law_part"]
abbrev sc__law_same : Scope := L2.defScope (top 21)
theorem fs__law_same : FnScope N__law_same ["_law_told_here", "_law_due"] sc__law_same := ⟨rfl, rfl, rfl, by decide +kernel, rfl, by decide +kernel, by decide +kernel⟩
theorem d__law_same {f : Addr} {fd : FuncData} (F : FunD K "_law_same" "_law_same" (L2.defArgs (top 21)) (L2.defBody (top 21)) sc__law_same [] [] f fd) (hm : mg "_law_same" = some (.ref f)) (h_enumerate : mg "enumerate" = none) (h_isinstance : mg "isinstance" = none) (h_len : mg "len" = none) (h_list : mg "list" = none) (h_tuple : mg "tuple" = none) (D__law_sort : DefF P w K mg base CX0 C0 1 "_law_sort" 1 m__law_sort) : ∀ q : Nat, DefF P w K mg base CX0 C0 (1 + q) "_law_same" 2 (m__law_same q)
  | 0 => ⟨⟨f, fd, ["_law_told_here", "_law_due"], fn_err (N := N__law_same) (ps := ["_law_told_here", "_law_due"]) (k := 0) F fs__law_same, hm, F.kp, (F.bindsN fun _ _ _ _ _ _ us hl => match us, hl with | [_, _], _ => rfl)⟩⟩
  | q + 1 => by
    have D_self := d__law_same F hm h_enumerate h_isinstance h_len h_list h_tuple D__law_sort q
    have G : FnOk P w K mg base CX0 (1 + q + 1) f fd ["_law_told_here", "_law_due"] (spF ⟨P, w, K⟩ C0 (m__law_same (q + 1)) 2) :=
      fn_g (k := 1 + q) (N := N__law_same) (ps := ["_law_told_here", "_law_due"]) (C := C0) (b := b__law_same (m__law_same q)) F fs__law_same fun cdv A outer s H E hr => by
        have hnd := fs__law_same.nd
        exact (as_cons (as_if (at_cmp (o_ne hr.units) (ae_call D__law_sort hr (by omega) pass_0 rfl (aa_cons (ae_var (i := 0) rfl (.inl rfl)) (aa_nil)) (nc_cons (nc_nil))) (ae_call D__law_sort hr (by omega) pass_0 rfl (aa_cons (ae_var (i := 1) rfl (.inr (.inl rfl))) (aa_nil)) (nc_cons (nc_nil))) (nomark _)) (as_one (as_ret (ae_bl))) (as_nil))
    (as_cons (as_if (at_not (at_val (ae_is2 tyOk_tuple tyOk_list rfl h_isinstance rfl h_tuple boot_tuple' rfl h_list boot_list' (ae_var (i := 0) rfl (.inl rfl))))) (as_one (as_ret (ae_cmp (o_eq hr.units) (ae_var (i := 0) rfl (.inl rfl)) (ae_var (i := 1) rfl (.inr (.inl rfl))) (nomark _)))) (as_nil))
    (as_cons (as_if (at_cmp (o_ne hr.units) (ae_callB c_len rfl h_len boot_len' (aa_cons (ae_var (i := 0) rfl (.inl rfl)) (aa_nil))) (ae_callB c_len rfl h_len boot_len' (aa_cons (ae_var (i := 1) rfl (.inr (.inl rfl))) (aa_nil))) (nomark _)) (as_one (as_ret (ae_bl))) (as_nil))
    (as_one (as_ret (ae_cmp (o_eq hr.units) (ae_lc rfl hnd (own := [("_law_k", 2), ("_law_part", 3)]) (ai_enum rfl h_enumerate (ae_var (i := 0) rfl (.inl rfl))) (blkOk_by (N := N__law_same) (sc := sc__law_same) (by decide +kernel)) (fun _ _ _ _ _ => ag_tup rfl (ags_cons (i := 2) hnd rfl (.inl rfl) (ags_cons (i := 3) hnd rfl (.inl rfl) (ags_nil))) rfl) (fun _ _ _ _ _ => ats_one (at_not (at_val (ae_call D_self hr (by omega) pass_0 rfl (aa_cons (ae_var (i := 3) rfl (.inl rfl)) (aa_cons (ae_ix (ae_var (i := 1) rfl (.inr (.inl rfl))) (ae_var (i := 2) rfl (.inl rfl))) (aa_nil))) (nc_cons (nc_cons (nc_nil))))))) (fun _ _ _ _ _ => ae_var (i := 2) rfl (.inl rfl)) (by decide)) (ae_lst (aa_nil) (by decide) (nc_nil)) (nomark _)))))))
    exact ⟨⟨f, fd, ["_law_told_here", "_law_due"], G, hm, F.kp, (F.bindsN fun _ _ _ _ _ _ us hl => match us, hl with | [_, _], _ => rfl)⟩⟩

def N__law_frac : List Str := ["_law_top", "_law_bottom", "_law_one_here", "_law_other", "_law_rest"]
abbrev sc__law_frac : Scope := L2.defScope (top 22)
theorem fs__law_frac : FnScope N__law_frac ["_law_top", "_law_bottom"] sc__law_frac := ⟨rfl, rfl, rfl, by decide +kernel, rfl, by decide +kernel, by decide +kernel⟩
theorem d__law_frac {f : Addr} {fd : FuncData} (F : FunD K "_law_frac" "_law_frac" (L2.defArgs (top 22)) (L2.defBody (top 22)) sc__law_frac [] [] f fd) (hm : mg "_law_frac" = some (.ref f)) (h_abs : mg "abs" = none) : DefF P w K mg base CX0 C0 1 "_law_frac" 2 m__law_frac := by
  have G : FnOk P w K mg base CX0 (0 + 1) f fd ["_law_top", "_law_bottom"] (spF ⟨P, w, K⟩ C0 m__law_frac 2) :=
    fn_g (k := 0) (N := N__law_frac) (ps := ["_law_top", "_law_bottom"]) (C := C0) (b := b__law_frac) F fs__law_frac fun cdv A outer s H E hr => by
      have hnd := fs__law_frac.nd
      exact (as_cons (as_par (i := 2) (j := 3) rfl hnd rfl rfl (by decide) rfl rfl (aa_cons (ae_callB c_abs rfl h_abs boot_abs' (aa_cons (ae_var (i := 0) rfl (.inl rfl)) (aa_nil))) (aa_cons (ae_callB c_abs rfl h_abs boot_abs' (aa_cons (ae_var (i := 1) rfl (.inl rfl)) (aa_nil))) (aa_nil))) (by rfl))
    (as_cons (as_while (fun fr => natOf 3 fr + 2) (passes_of rfl) (at_cmp o_gt (ae_var (i := 3) rfl (.inl rfl)) (ae_int) (nomark _)) (ass_kill [4] (as_cons (as_set (i := 4) hnd rfl (.inl rfl) (ae_bin o_mod (ae_var (i := 2) rfl (.inl rfl)) (ae_var (i := 3) rfl (.inl rfl))))
    (as_cons (as_set (i := 2) hnd rfl (.inl rfl) (ae_var (i := 3) rfl (.inl rfl)))
    (as_one (as_set (i := 3) hnd rfl (.inl rfl) (ae_var (i := 4) rfl (.inl rfl))))))))
    (ass_kill [3, 4] (as_one (as_ret (ae_tup (aa_cons (ae_bin o_fdiv (ae_var (i := 0) rfl (.inl rfl)) (ae_var (i := 2) rfl (.inl rfl))) (aa_cons (ae_bin o_fdiv (ae_var (i := 1) rfl (.inl rfl)) (ae_var (i := 2) rfl (.inl rfl))) (aa_nil))) (by decide) (nc_cons (nc_cons (nc_nil)))))))))
  exact ⟨⟨f, fd, ["_law_top", "_law_bottom"], G, hm, F.kp, (F.bindsN fun _ _ _ _ _ _ us hl => match us, hl with | [_, _], _ => rfl)⟩⟩

def N__law_plus : List Str := ["_law_one_here", "_law_other"]
abbrev sc__law_plus : Scope := L2.defScope (top 23)
theorem fs__law_plus : FnScope N__law_plus ["_law_one_here", "_law_other"] sc__law_plus := ⟨rfl, rfl, rfl, by decide +kernel, rfl, by decide +kernel, by decide +kernel⟩
theorem d__law_plus {f : Addr} {fd : FuncData} (F : FunD K "_law_plus" "_law_plus" (L2.defArgs (top 23)) (L2.defBody (top 23)) sc__law_plus [] [] f fd) (hm : mg "_law_plus" = some (.ref f)) (D__law_frac : DefF P w K mg base CX0 C0 1 "_law_frac" 2 m__law_frac) : DefF P w K mg base CX0 C0 2 "_law_plus" 2 m__law_plus := by
  have G : FnOk P w K mg base CX0 (1 + 1) f fd ["_law_one_here", "_law_other"] (spF ⟨P, w, K⟩ C0 m__law_plus 2) :=
    fn_g (k := 1) (N := N__law_plus) (ps := ["_law_one_here", "_law_other"]) (C := C0) (b := b__law_plus) F fs__law_plus fun cdv A outer s H E hr => by
      have hnd := fs__law_plus.nd
      exact (as_one (as_ret (ae_call D__law_frac hr (by omega) pass_0 rfl (aa_cons (ae_bin o_add (ae_bin o_mul (ae_ix (ae_var (i := 0) rfl (.inl rfl)) (ae_int)) (ae_ix (ae_var (i := 1) rfl (.inl rfl)) (ae_int))) (ae_bin o_mul (ae_ix (ae_var (i := 1) rfl (.inl rfl)) (ae_int)) (ae_ix (ae_var (i := 0) rfl (.inl rfl)) (ae_int)))) (aa_cons (ae_bin o_mul (ae_ix (ae_var (i := 0) rfl (.inl rfl)) (ae_int)) (ae_ix (ae_var (i := 1) rfl (.inl rfl)) (ae_int))) (aa_nil))) (nc_cons (nc_cons (nc_nil))))))
  exact ⟨⟨f, fd, ["_law_one_here", "_law_other"], G, hm, F.kp, (F.bindsN fun _ _ _ _ _ _ us hl => match us, hl with | [_, _], _ => rfl)⟩⟩

def N__law_minus : List Str := ["_law_one_here", "_law_other"]
abbrev sc__law_minus : Scope := L2.defScope (top 24)
theorem fs__law_minus : FnScope N__law_minus ["_law_one_here", "_law_other"] sc__law_minus := ⟨rfl, rfl, rfl, by decide +kernel, rfl, by decide +kernel, by decide +kernel⟩
theorem d__law_minus {f : Addr} {fd : FuncData} (F : FunD K "_law_minus" "_law_minus" (L2.defArgs (top 24)) (L2.defBody (top 24)) sc__law_minus [] [] f fd) (hm : mg "_law_minus" = some (.ref f)) (D__law_frac : DefF P w K mg base CX0 C0 1 "_law_frac" 2 m__law_frac) : DefF P w K mg base CX0 C0 2 "_law_minus" 2 m__law_minus := by
  have G : FnOk P w K mg base CX0 (1 + 1) f fd ["_law_one_here", "_law_other"] (spF ⟨P, w, K⟩ C0 m__law_minus 2) :=
    fn_g (k := 1) (N := N__law_minus) (ps := ["_law_one_here", "_law_other"]) (C := C0) (b := b__law_minus) F fs__law_minus fun cdv A outer s H E hr => by
      have hnd := fs__law_minus.nd
      exact (as_one (as_ret (ae_call D__law_frac hr (by omega) pass_0 rfl (aa_cons (ae_bin o_sub (ae_bin o_mul (ae_ix (ae_var (i := 0) rfl (.inl rfl)) (ae_int)) (ae_ix (ae_var (i := 1) rfl (.inl rfl)) (ae_int))) (ae_bin o_mul (ae_ix (ae_var (i := 1) rfl (.inl rfl)) (ae_int)) (ae_ix (ae_var (i := 0) rfl (.inl rfl)) (ae_int)))) (aa_cons (ae_bin o_mul (ae_ix (ae_var (i := 0) rfl (.inl rfl)) (ae_int)) (ae_ix (ae_var (i := 1) rfl (.inl rfl)) (ae_int))) (aa_nil))) (nc_cons (nc_cons (nc_nil))))))
  exact ⟨⟨f, fd, ["_law_one_here", "_law_other"], G, hm, F.kp, (F.bindsN fun _ _ _ _ _ _ us hl => match us, hl with | [_, _], _ => rfl)⟩⟩

def N__law_amount : List Str := ["_law_deck_here"]
abbrev sc__law_amount : Scope := L2.defScope (top 25)
theorem fs__law_amount : FnScope N__law_amount ["_law_deck_here"] sc__law_amount := ⟨rfl, rfl, rfl, by decide +kernel, rfl, by decide +kernel, by decide +kernel⟩
theorem d__law_amount {f : Addr} {fd : FuncData} (F : FunD K "_law_amount" "_law_amount" (L2.defArgs (top 25)) (L2.defBody (top 25)) sc__law_amount [] [] f fd) (hm : mg "_law_amount" = some (.ref f)) (D__law_pick : DefF P w K mg base CX0 C0 1 "_law_pick" 2 m__law_pick) (D__law_one : DefF P w K mg base CX0 C0 2 "_law_one" 2 m__law_one) (D__law_frac : DefF P w K mg base CX0 C0 1 "_law_frac" 2 m__law_frac) : DefF P w K mg base CX0 C0 3 "_law_amount" 1 m__law_amount := by
  have G : FnOk P w K mg base CX0 (2 + 1) f fd ["_law_deck_here"] (spF ⟨P, w, K⟩ C0 m__law_amount 1) :=
    fn_g (k := 2) (N := N__law_amount) (ps := ["_law_deck_here"]) (C := C0) (b := b__law_amount) F fs__law_amount fun cdv A outer s H E hr => by
      have hnd := fs__law_amount.nd
      exact (as_one (as_ret (ae_call D__law_frac hr (by omega) pass_0 rfl (aa_cons (ae_bin o_add (ae_int) (ae_call D__law_pick hr (by omega) pass_0 rfl (aa_cons (ae_var (i := 0) rfl (.inl rfl)) (aa_cons (ae_int) (aa_nil))) (nc_cons (nc_cons (nc_nil))))) (aa_cons (ae_call D__law_one hr (by omega) pass_0 rfl (aa_cons (ae_var (i := 0) rfl (.inl rfl)) (aa_cons (ae_lst (aa_cons (ae_int) (aa_cons (ae_int) (aa_cons (ae_int) (aa_cons (ae_int) (aa_cons (ae_int) (aa_nil)))))) (by decide) (nc_cons (nc_cons (nc_cons (nc_cons (nc_cons (nc_nil))))))) (aa_nil))) (nc_cons (nc_cons (nc_nil)))) (aa_nil))) (nc_cons (nc_cons (nc_nil))))))
  exact ⟨⟨f, fd, ["_law_deck_here"], G, hm, F.kp, (F.bindsN fun _ _ _ _ _ _ us hl => match us, hl with | [_], _ => rfl)⟩⟩

def N__law_marks : List Str := ["_law_deck_here", "_law_size", "_law_some", "_law_mark"]
abbrev sc__law_marks : Scope := L2.defScope (top 26)
theorem fs__law_marks : FnScope N__law_marks ["_law_deck_here", "_law_size"] sc__law_marks := ⟨rfl, rfl, rfl, by decide +kernel, rfl, by decide +kernel, by decide +kernel⟩
theorem d__law_marks {f : Addr} {fd : FuncData} (F : FunD K "_law_marks" "_law_marks" (L2.defArgs (top 26)) (L2.defBody (top 26)) sc__law_marks [] [] f fd) (hm : mg "_law_marks" = some (.ref f)) (h_tuple : mg "tuple" = none) (D__law_pick : DefF P w K mg base CX0 C0 1 "_law_pick" 2 m__law_pick) : DefF P w K mg base CX0 C0 2 "_law_marks" 2 m__law_marks := by
  have G : FnOk P w K mg base CX0 (1 + 1) f fd ["_law_deck_here", "_law_size"] (spF ⟨P, w, K⟩ C0 m__law_marks 2) :=
    fn_g (k := 1) (N := N__law_marks) (ps := ["_law_deck_here", "_law_size"]) (C := C0) (b := b__law_marks) F fs__law_marks fun cdv A outer s H E hr => by
      have hnd := fs__law_marks.nd
      exact (as_cons (as_set (i := 2) hnd rfl (.inl rfl) (ae_lst (aa_cons (ae_str) (aa_cons (ae_str) (aa_cons (ae_str) (aa_cons (ae_str) (aa_nil))))) (by decide) (nc_cons (nc_cons (nc_cons (nc_cons (nc_nil)))))))
    (as_one (as_ret (ae_callT c_tuple rfl h_tuple boot_tuple' (aa_cons (ae_lc rfl hnd (own := [("_law_mark", 3)]) (ai_seq (ae_var (i := 2) rfl (.inl rfl))) (blkOk_by (N := N__law_marks) (sc := sc__law_marks) (by decide +kernel)) (fun _ _ _ _ _ => ag_name (i := 3) hnd rfl (.inl rfl)) (fun _ _ _ _ _ => ats_one (at_cmp (o_eq hr.units) (ae_call D__law_pick hr (by omega) pass_0 rfl (aa_cons (ae_var (i := 0) rfl (.inr (.inl rfl))) (aa_cons (ae_var (i := 1) rfl (.inr (.inl rfl))) (aa_nil))) (nc_cons (nc_cons (nc_nil)))) (ae_int) (nomark _))) (fun _ _ _ _ _ => ae_var (i := 3) rfl (.inl rfl)) (by decide)) (aa_nil))))))
  exact ⟨⟨f, fd, ["_law_deck_here", "_law_size"], G, hm, F.kp, (F.bindsN fun _ _ _ _ _ _ us hl => match us, hl with | [_, _], _ => rfl)⟩⟩

def N__law_goods : List Str := ["_law_deck_here", "_law_found", "_law_name", "_law_days_here"]
abbrev sc__law_goods : Scope := L2.defScope (top 27)
theorem fs__law_goods : FnScope N__law_goods ["_law_deck_here"] sc__law_goods := ⟨rfl, rfl, rfl, by decide +kernel, rfl, by decide +kernel, by decide +kernel⟩
theorem d__law_goods {f : Addr} {fd : FuncData} (F : FunD K "_law_goods" "_law_goods" (L2.defArgs (top 27)) (L2.defBody (top 27)) sc__law_goods [] [] f fd) (hm : mg "_law_goods" = some (.ref f)) (h_tuple : mg "tuple" = none) (D__law_pick : DefF P w K mg base CX0 C0 1 "_law_pick" 2 m__law_pick) (D__law_one : DefF P w K mg base CX0 C0 2 "_law_one" 2 m__law_one) (D__law_marks : DefF P w K mg base CX0 C0 2 "_law_marks" 2 m__law_marks) : DefF P w K mg base CX0 C0 3 "_law_goods" 1 m__law_goods := by
  have G : FnOk P w K mg base CX0 (2 + 1) f fd ["_law_deck_here"] (spF ⟨P, w, K⟩ C0 m__law_goods 1) :=
    fn_g (k := 2) (N := N__law_goods) (ps := ["_law_deck_here"]) (C := C0) (b := b__law_goods) F fs__law_goods fun cdv A outer s H E hr => by
      have hnd := fs__law_goods.nd
      exact (as_cons (as_set (i := 1) hnd rfl (.inl rfl) (ae_newL (aa_nil) (by decide) (nc_nil)))
    (as_cons (as_for (passes_of rfl) rfl (ai_seq (ae_sl (ae_lst (aa_cons (ae_str) (aa_cons (ae_str) (aa_cons (ae_str) (aa_cons (ae_str) (aa_cons (ae_str) (aa_cons (ae_str) (aa_nil))))))) (by decide) (nc_cons (nc_cons (nc_cons (nc_cons (nc_cons (nc_cons (nc_nil)))))))) (ao_none) (ao_some (ae_bin o_add (ae_int) (ae_call D__law_pick hr (by omega) pass_0 rfl (aa_cons (ae_var (i := 0) rfl (.inl rfl)) (aa_cons (ae_int) (aa_nil))) (nc_cons (nc_cons (nc_nil)))))))) (ag_name (i := 2) hnd rfl (.inl rfl)) (ass_kill [3] (as_cons (as_set (i := 3) hnd rfl (.inl rfl) (ae_call D__law_one hr (by omega) pass_0 rfl (aa_cons (ae_var (i := 0) rfl (.inl rfl)) (aa_cons (ae_lst (aa_cons (ae_int) (aa_cons (ae_int) (aa_cons (ae_int) (aa_cons (ae_int) (aa_nil))))) (by decide) (nc_cons (nc_cons (nc_cons (nc_cons (nc_nil)))))) (aa_nil))) (nc_cons (nc_cons (nc_nil)))))
    (as_one (as_app (i := 1) rfl (.inl rfl) (ae_tup (aa_cons (ae_var (i := 2) rfl (.inl rfl)) (aa_cons (ae_bin o_add (ae_int) (ae_call D__law_pick hr (by omega) pass_0 rfl (aa_cons (ae_var (i := 0) rfl (.inl rfl)) (aa_cons (ae_int) (aa_nil))) (nc_cons (nc_cons (nc_nil))))) (aa_cons (ae_call D__law_pick hr (by omega) pass_0 rfl (aa_cons (ae_var (i := 0) rfl (.inl rfl)) (aa_cons (ae_int) (aa_nil))) (nc_cons (nc_cons (nc_nil)))) (aa_cons (ae_var (i := 3) rfl (.inl rfl)) (aa_cons (ae_call D__law_marks hr (by omega) pass_0 rfl (aa_cons (ae_var (i := 0) rfl (.inl rfl)) (aa_cons (ae_int) (aa_nil))) (nc_cons (nc_cons (nc_nil)))) (aa_nil)))))) (by decide) (nc_cons (nc_cons (nc_cons (nc_cons (nc_cons (nc_nil))))))))))))
    (ass_kill [2, 3] (as_one (as_ret (ae_callT c_tuple rfl h_tuple boot_tuple' (aa_cons (ae_var (i := 1) rfl (.inl rfl)) (aa_nil))))))))
  exact ⟨⟨f, fd, ["_law_deck_here"], G, hm, F.kp, (F.bindsN fun _ _ _ _ _ _ us hl => match us, hl with | [_], _ => rfl)⟩⟩

def N__law_store : List Str := ["_law_deck_here", "_law_goods_here", "_law_found", "_law_turn", "_law_one_here"]
abbrev sc__law_store : Scope := L2.defScope (top 28)
theorem fs__law_store : FnScope N__law_store ["_law_deck_here", "_law_goods_here"] sc__law_store := ⟨rfl, rfl, rfl, by decide +kernel, rfl, by decide +kernel, by decide +kernel⟩
theorem d__law_store {f : Addr} {fd : FuncData} (F : FunD K "_law_store" "_law_store" (L2.defArgs (top 28)) (L2.defBody (top 28)) sc__law_store [] [] f fd) (hm : mg "_law_store" = some (.ref f)) (h_range : mg "range" = none) (h_sorted : mg "sorted" = none) (h_tuple : mg "tuple" = none) (D__law_pick : DefF P w K mg base CX0 C0 1 "_law_pick" 2 m__law_pick) (D__law_one : DefF P w K mg base CX0 C0 2 "_law_one" 2 m__law_one) (D__law_amount : DefF P w K mg base CX0 C0 3 "_law_amount" 1 m__law_amount) : DefF P w K mg base CX0 C0 4 "_law_store" 2 m__law_store := by
  have G : FnOk P w K mg base CX0 (3 + 1) f fd ["_law_deck_here", "_law_goods_here"] (spF ⟨P, w, K⟩ C0 m__law_store 2) :=
    fn_g (k := 3) (N := N__law_store) (ps := ["_law_deck_here", "_law_goods_here"]) (C := C0) (b := b__law_store) F fs__law_store fun cdv A outer s H E hr => by
      have hnd := fs__law_store.nd
      exact (as_cons (as_set (i := 2) hnd rfl (.inr rfl) (ae_newD true))
    (as_cons (as_for (passes_of rfl) rfl (ai_range1 rfl h_range (ae_call D__law_pick hr (by omega) pass_0 rfl (aa_cons (ae_var (i := 0) rfl (.inl rfl)) (aa_cons (ae_int) (aa_nil))) (nc_cons (nc_cons (nc_nil))))) (ag_name (i := 3) hnd rfl (.inl rfl)) (ass_kill [3] (as_one (as_dset (i := 2) hr.units rfl (.inr (.inl rfl)) (ae_tup (aa_cons (ae_ix (ae_call D__law_one hr (by omega) pass_0 rfl (aa_cons (ae_var (i := 0) rfl (.inl rfl)) (aa_cons (ae_var (i := 1) rfl (.inl rfl)) (aa_nil))) (nc_cons (nc_cons (nc_nil)))) (ae_int)) (aa_cons (ae_call D__law_pick hr (by omega) pass_0 rfl (aa_cons (ae_var (i := 0) rfl (.inl rfl)) (aa_cons (ae_int) (aa_nil))) (nc_cons (nc_cons (nc_nil)))) (aa_nil))) (by decide) (nc_cons (nc_cons (nc_nil)))) (ae_call D__law_amount hr (by omega) pass_0 rfl (aa_cons (ae_var (i := 0) rfl (.inl rfl)) (aa_nil)) (nc_cons (nc_nil)))))))
    (ass_kill [3] (as_one (as_ret (ae_callT c_tuple rfl h_tuple boot_tuple' (aa_cons (ae_lc rfl hnd (own := [("_law_one_here", 4)]) (ai_seq (ae_callBD (c_sortedK rfl hr.units) rfl h_sorted boot_sorted' (ae_var (i := 2) rfl (.inr (.inl rfl))))) (blkOk_by (N := N__law_store) (sc := sc__law_store) (by decide +kernel)) (fun _ _ _ _ _ => ag_name (i := 4) hnd rfl (.inl rfl)) (fun _ _ _ _ _ => ats_nil) (fun _ _ _ _ _ => ae_bin o_add (ae_var (i := 4) rfl (.inl rfl)) (ae_tup (aa_cons (ae_dget hr.units (ae_var (i := 2) rfl (.inr (.inl rfl))) (ae_var (i := 4) rfl (.inl rfl))) (aa_nil)) (by decide) (nc_cons (nc_nil)))) (by decide)) (aa_nil))))))))
  exact ⟨⟨f, fd, ["_law_deck_here", "_law_goods_here"], G, hm, F.kp, (F.bindsN fun _ _ _ _ _ _ us hl => match us, hl with | [_, _], _ => rfl)⟩⟩

def N__law_days : List Str := ["_law_goods_here", "_law_name", "_law_good"]
abbrev sc__law_days : Scope := L2.defScope (top 29)
theorem fs__law_days : FnScope N__law_days ["_law_goods_here", "_law_name"] sc__law_days := ⟨rfl, rfl, rfl, by decide +kernel, rfl, by decide +kernel, by decide +kernel⟩
theorem d__law_days {f : Addr} {fd : FuncData} (F : FunD K "_law_days" "_law_days" (L2.defArgs (top 29)) (L2.defBody (top 29)) sc__law_days [] [] f fd) (hm : mg "_law_days" = some (.ref f))  : DefF P w K mg base CX0 C0 1 "_law_days" 2 m__law_days := by
  have G : FnOk P w K mg base CX0 (0 + 1) f fd ["_law_goods_here", "_law_name"] (spF ⟨P, w, K⟩ C0 m__law_days 2) :=
    fn_g (k := 0) (N := N__law_days) (ps := ["_law_goods_here", "_law_name"]) (C := C0) (b := b__law_days) F fs__law_days fun cdv A outer s H E hr => by
      have hnd := fs__law_days.nd
      exact (as_one (as_ret (ae_ix (ae_lc rfl hnd (own := [("_law_good", 2)]) (ai_seq (ae_var (i := 0) rfl (.inl rfl))) (blkOk_by (N := N__law_days) (sc := sc__law_days) (by decide +kernel)) (fun _ _ _ _ _ => ag_name (i := 2) hnd rfl (.inl rfl)) (fun _ _ _ _ _ => ats_one (at_cmp (o_eq hr.units) (ae_ix (ae_var (i := 2) rfl (.inl rfl)) (ae_int)) (ae_var (i := 1) rfl (.inr (.inl rfl))) (nomark _))) (fun _ _ _ _ _ => ae_ix (ae_var (i := 2) rfl (.inl rfl)) (ae_int)) (by decide)) (ae_int))))
  exact ⟨⟨f, fd, ["_law_goods_here", "_law_name"], G, hm, F.kp, (F.bindsN fun _ _ _ _ _ _ us hl => match us, hl with | [_, _], _ => rfl)⟩⟩

def N__law_is_over : List Str := ["_law_goods_here", "_law_lot", "_law_day"]
abbrev sc__law_is_over : Scope := L2.defScope (top 30)
theorem fs__law_is_over : FnScope N__law_is_over ["_law_goods_here", "_law_lot", "_law_day"] sc__law_is_over := ⟨rfl, rfl, rfl, by decide +kernel, rfl, by decide +kernel, by decide +kernel⟩
theorem d__law_is_over {f : Addr} {fd : FuncData} (F : FunD K "_law_is_over" "_law_is_over" (L2.defArgs (top 30)) (L2.defBody (top 30)) sc__law_is_over [] [] f fd) (hm : mg "_law_is_over" = some (.ref f)) (D__law_days : DefF P w K mg base CX0 C0 1 "_law_days" 2 m__law_days) : DefF P w K mg base CX0 C0 2 "_law_is_over" 3 m__law_is_over := by
  have G : FnOk P w K mg base CX0 (1 + 1) f fd ["_law_goods_here", "_law_lot", "_law_day"] (spF ⟨P, w, K⟩ C0 m__law_is_over 3) :=
    fn_g (k := 1) (N := N__law_is_over) (ps := ["_law_goods_here", "_law_lot", "_law_day"]) (C := C0) (b := b__law_is_over) F fs__law_is_over fun cdv A outer s H E hr => by
      have hnd := fs__law_is_over.nd
      exact (as_one (as_ret (ae_cmp o_gt (ae_var (i := 2) rfl (.inl rfl)) (ae_bin o_add (ae_ix (ae_var (i := 1) rfl (.inl rfl)) (ae_int)) (ae_call D__law_days hr (by omega) pass_0 rfl (aa_cons (ae_var (i := 0) rfl (.inl rfl)) (aa_cons (ae_ix (ae_var (i := 1) rfl (.inl rfl)) (ae_int)) (aa_nil))) (nc_cons (nc_cons (nc_nil))))) (nomark _))))
  exact ⟨⟨f, fd, ["_law_goods_here", "_law_lot", "_law_day"], G, hm, F.kp, (F.bindsN fun _ _ _ _ _ _ us hl => match us, hl with | [_, _, _], _ => rfl)⟩⟩

def N__law_below : List Str := ["_law_one_here", "_law_other"]
abbrev sc__law_below : Scope := L2.defScope (top 31)
theorem fs__law_below : FnScope N__law_below ["_law_one_here", "_law_other"] sc__law_below := ⟨rfl, rfl, rfl, by decide +kernel, rfl, by decide +kernel, by decide +kernel⟩
theorem d__law_below {f : Addr} {fd : FuncData} (F : FunD K "_law_below" "_law_below" (L2.defArgs (top 31)) (L2.defBody (top 31)) sc__law_below [] [] f fd) (hm : mg "_law_below" = some (.ref f))  : DefF P w K mg base CX0 C0 1 "_law_below" 2 m__law_below := by
  have G : FnOk P w K mg base CX0 (0 + 1) f fd ["_law_one_here", "_law_other"] (spF ⟨P, w, K⟩ C0 m__law_below 2) :=
    fn_g (k := 0) (N := N__law_below) (ps := ["_law_one_here", "_law_other"]) (C := C0) (b := b__law_below) F fs__law_below fun cdv A outer s H E hr => by
      have hnd := fs__law_below.nd
      exact (as_one (as_ret (ae_cmp (o_lt hr.units) (ae_bin o_mul (ae_ix (ae_var (i := 0) rfl (.inl rfl)) (ae_int)) (ae_ix (ae_var (i := 1) rfl (.inl rfl)) (ae_int))) (ae_bin o_mul (ae_ix (ae_var (i := 1) rfl (.inl rfl)) (ae_int)) (ae_ix (ae_var (i := 0) rfl (.inl rfl)) (ae_int))) (nomark _))))
  exact ⟨⟨f, fd, ["_law_one_here", "_law_other"], G, hm, F.kp, (F.bindsN fun _ _ _ _ _ _ us hl => match us, hl with | [_, _], _ => rfl)⟩⟩

def N__law_taken : List Str := ["_law_goods_here", "_law_store_here", "_law_wants_here", "_law_day", "_law_rows", "_law_left", "_law_name", "_law_grams", "_law_lot", "_law_part", "_law_rest", "_law_at", "_law_one_here"]
abbrev sc__law_taken : Scope := L2.defScope (top 32)
theorem fs__law_taken : FnScope N__law_taken ["_law_goods_here", "_law_store_here", "_law_wants_here", "_law_day"] sc__law_taken := ⟨rfl, rfl, rfl, by decide +kernel, rfl, by decide +kernel, by decide +kernel⟩
theorem d__law_taken {f : Addr} {fd : FuncData} (F : FunD K "_law_taken" "_law_taken" (L2.defArgs (top 32)) (L2.defBody (top 32)) sc__law_taken [] [] f fd) (hm : mg "_law_taken" = some (.ref f)) (h_list : mg "list" = none) (h_sorted : mg "sorted" = none) (h_tuple : mg "tuple" = none) (D__law_minus : DefF P w K mg base CX0 C0 2 "_law_minus" 2 m__law_minus) (D__law_is_over : DefF P w K mg base CX0 C0 2 "_law_is_over" 3 m__law_is_over) (D__law_below : DefF P w K mg base CX0 C0 1 "_law_below" 2 m__law_below) : DefF P w K mg base CX0 C0 3 "_law_taken" 4 m__law_taken := by
  have G : FnOk P w K mg base CX0 (2 + 1) f fd ["_law_goods_here", "_law_store_here", "_law_wants_here", "_law_day"] (spF ⟨P, w, K⟩ C0 m__law_taken 4) :=
    fn_g (k := 2) (N := N__law_taken) (ps := ["_law_goods_here", "_law_store_here", "_law_wants_here", "_law_day"]) (C := C0) (b := b__law_taken) F fs__law_taken fun cdv A outer s H E hr => by
      have hnd := fs__law_taken.nd
      exact (as_cons (as_par (i := 4) (j := 5) rfl hnd rfl rfl (by decide) rfl rfl (aa_cons (ae_newL (aa_nil) (by decide) (nc_nil)) (aa_cons (ae_listF rfl h_list (ae_var (i := 1) rfl (.inl rfl))) (aa_nil))) (by rfl))
    (as_cons (as_for (passes_of rfl) rfl (ai_seq (ae_var (i := 2) rfl (.inl rfl))) (ag_tup rfl (ags_cons (i := 6) hnd rfl (.inr rfl) (ags_cons (i := 7) hnd rfl (.inl rfl) (ags_nil))) rfl) (ass_kill [8, 9, 10, 11] (as_cons (as_for (passes_of rfl) rfl (ai_seq (ae_lc rfl hnd (own := [("_law_one_here", 12)]) (ai_seq (ae_var (i := 1) rfl (.inl rfl))) (blkOk_by (N := N__law_taken) (sc := sc__law_taken) (by decide +kernel)) (fun _ _ _ _ _ => ag_name (i := 12) hnd rfl (.inl rfl)) (fun _ _ _ _ _ => ats_one (at_w (aw_and (at_cmp (o_eq hr.units) (ae_ix (ae_var (i := 12) rfl (.inl rfl)) (ae_int)) (ae_var (i := 6) rfl (.inr (.inl rfl))) (nomark _)) (aw_and1 (at_not (at_val (ae_call D__law_is_over hr (by omega) pass_0 rfl (aa_cons (ae_var (i := 0) rfl (.inr (.inl rfl))) (aa_cons (ae_var (i := 12) rfl (.inl rfl)) (aa_cons (ae_var (i := 3) rfl (.inr (.inl rfl))) (aa_nil)))) (nc_cons (nc_cons (nc_cons (nc_nil))))))))))) (fun _ _ _ _ _ => ae_var (i := 12) rfl (.inl rfl)) (by decide))) (ag_name (i := 8) hnd rfl (.inl rfl)) (ass_kill [9, 10, 11] (as_one (as_if (at_cmp o_gt (ae_ix (ae_var (i := 7) rfl (.inl rfl)) (ae_int)) (ae_int) (nomark _)) (as_cons (as_set (i := 9) hnd rfl (.inl rfl) (ae_if (at_val (ae_call D__law_below hr (by omega) pass_0 rfl (aa_cons (ae_ix (ae_var (i := 8) rfl (.inl rfl)) (ae_int)) (aa_cons (ae_var (i := 7) rfl (.inl rfl)) (aa_nil))) (nc_cons (nc_cons (nc_nil))))) (ae_ix (ae_var (i := 8) rfl (.inl rfl)) (ae_int)) (ae_var (i := 7) rfl (.inl rfl))))
    (as_cons (as_app (i := 4) rfl (.inl rfl) (ae_bin o_add (ae_sl (ae_var (i := 8) rfl (.inl rfl)) (ao_none) (ao_some (ae_int))) (ae_tup (aa_cons (ae_var (i := 9) rfl (.inl rfl)) (aa_nil)) (by decide) (nc_cons (nc_nil)))))
    (as_cons (as_set (i := 10) hnd rfl (.inl rfl) (ae_call D__law_minus hr (by omega) pass_0 rfl (aa_cons (ae_ix (ae_var (i := 8) rfl (.inl rfl)) (ae_int)) (aa_cons (ae_var (i := 9) rfl (.inl rfl)) (aa_nil))) (nc_cons (nc_cons (nc_nil)))))
    (as_cons (as_set (i := 11) hnd rfl (.inl rfl) (ae_index (i := 5) (room65 hr) rfl (.inl rfl) (ae_var (i := 8) rfl (.inl rfl))))
    (as_cons (as_slSet (i := 5) rfl (.inl rfl) (ae_var (i := 11) rfl (.inl rfl)) (ae_bin o_add (ae_var (i := 11) rfl (.inl rfl)) (ae_int)) (ae_if (at_cmp o_gt (ae_ix (ae_var (i := 10) rfl (.inl rfl)) (ae_int)) (ae_int) (nomark _)) (ae_lst (aa_cons (ae_bin o_add (ae_sl (ae_var (i := 8) rfl (.inl rfl)) (ao_none) (ao_some (ae_int))) (ae_tup (aa_cons (ae_var (i := 10) rfl (.inl rfl)) (aa_nil)) (by decide) (nc_cons (nc_nil)))) (aa_nil)) (by decide) (nc_cons (nc_nil))) (ae_lst (aa_nil) (by decide) (nc_nil))))
    (as_one (as_set (i := 7) hnd rfl (.inl rfl) (ae_call D__law_minus hr (by omega) pass_0 rfl (aa_cons (ae_var (i := 7) rfl (.inl rfl)) (aa_cons (ae_var (i := 9) rfl (.inl rfl)) (aa_nil))) (nc_cons (nc_cons (nc_nil))))))))))) (as_nil)))))
    (ass_kill [8, 9, 10, 11] (as_one (as_if (at_cmp o_gt (ae_ix (ae_var (i := 7) rfl (.inl rfl)) (ae_int)) (ae_int) (nomark _)) (as_one (as_ret (ae_lst (aa_cons (ae_var (i := 6) rfl (.inr (.inl rfl))) (aa_cons (ae_var (i := 7) rfl (.inl rfl)) (aa_nil))) (by decide) (nc_cons (nc_cons (nc_nil)))))) (as_nil)))))))
    (ass_kill [6, 7, 8, 9, 10, 11] (as_one (as_ret (ae_tup (aa_cons (ae_str) (aa_cons (ae_tup (aa_cons (ae_callB (c_sorted hr.units) rfl h_sorted boot_sorted' (aa_cons (ae_var (i := 4) rfl (.inl rfl)) (aa_nil))) (aa_cons (ae_callT c_tuple rfl h_tuple boot_tuple' (aa_cons (ae_var (i := 5) rfl (.inl rfl)) (aa_nil))) (aa_nil))) (by decide) (nc_cons (nc_cons (nc_nil)))) (aa_nil))) (by decide) (nc_cons (nc_cons (nc_nil)))))))))
  exact ⟨⟨f, fd, ["_law_goods_here", "_law_store_here", "_law_wants_here", "_law_day"], G, hm, F.kp, (F.bindsN fun _ _ _ _ _ _ us hl => match us, hl with | [_, _, _, _], _ => rfl)⟩⟩

def N__law_wants : List Str := ["_law_deck_here", "_law_goods_here", "_law_found", "_law_turn"]
abbrev sc__law_wants : Scope := L2.defScope (top 33)
theorem fs__law_wants : FnScope N__law_wants ["_law_deck_here", "_law_goods_here"] sc__law_wants := ⟨rfl, rfl, rfl, by decide +kernel, rfl, by decide +kernel, by decide +kernel⟩
theorem d__law_wants {f : Addr} {fd : FuncData} (F : FunD K "_law_wants" "_law_wants" (L2.defArgs (top 33)) (L2.defBody (top 33)) sc__law_wants [] [] f fd) (hm : mg "_law_wants" = some (.ref f)) (h_range : mg "range" = none) (h_sorted : mg "sorted" = none) (D__law_pick : DefF P w K mg base CX0 C0 1 "_law_pick" 2 m__law_pick) (D__law_one : DefF P w K mg base CX0 C0 2 "_law_one" 2 m__law_one) (D__law_amount : DefF P w K mg base CX0 C0 3 "_law_amount" 1 m__law_amount) : DefF P w K mg base CX0 C0 4 "_law_wants" 2 m__law_wants := by
  have G : FnOk P w K mg base CX0 (3 + 1) f fd ["_law_deck_here", "_law_goods_here"] (spF ⟨P, w, K⟩ C0 m__law_wants 2) :=
    fn_g (k := 3) (N := N__law_wants) (ps := ["_law_deck_here", "_law_goods_here"]) (C := C0) (b := b__law_wants) F fs__law_wants fun cdv A outer s H E hr => by
      have hnd := fs__law_wants.nd
      exact (as_cons (as_set (i := 2) hnd rfl (.inl rfl) (ae_newD false))
    (as_cons (as_for (passes_of rfl) rfl (ai_range1 rfl h_range (ae_bin o_add (ae_int) (ae_call D__law_pick hr (by omega) pass_0 rfl (aa_cons (ae_var (i := 0) rfl (.inl rfl)) (aa_cons (ae_int) (aa_nil))) (nc_cons (nc_cons (nc_nil)))))) (ag_name (i := 3) hnd rfl (.inl rfl)) (ass_kill [3] (as_one (as_dset (i := 2) hr.units rfl (.inl rfl) (ae_ix (ae_call D__law_one hr (by omega) pass_0 rfl (aa_cons (ae_var (i := 0) rfl (.inl rfl)) (aa_cons (ae_var (i := 1) rfl (.inl rfl)) (aa_nil))) (nc_cons (nc_cons (nc_nil)))) (ae_int)) (ae_call D__law_amount hr (by omega) pass_0 rfl (aa_cons (ae_var (i := 0) rfl (.inl rfl)) (aa_nil)) (nc_cons (nc_nil)))))))
    (ass_kill [3] (as_one (as_ret (ae_callBI (c_sortedI rfl hr.units) rfl h_sorted boot_sorted' (ae_var (i := 2) rfl (.inl rfl))))))))
  exact ⟨⟨f, fd, ["_law_deck_here", "_law_goods_here"], G, hm, F.kp, (F.bindsN fun _ _ _ _ _ _ us hl => match us, hl with | [_, _], _ => rfl)⟩⟩

def N__law_lacks : List Str := ["_law_goods_here", "_law_store_here", "_law_wants_here", "_law_day", "_law_found", "_law_name", "_law_grams", "_law_there", "_law_lot"]
abbrev sc__law_lacks : Scope := L2.defScope (top 34)
theorem fs__law_lacks : FnScope N__law_lacks ["_law_goods_here", "_law_store_here", "_law_wants_here", "_law_day"] sc__law_lacks := ⟨rfl, rfl, rfl, by decide +kernel, rfl, by decide +kernel, by decide +kernel⟩
theorem d__law_lacks {f : Addr} {fd : FuncData} (F : FunD K "_law_lacks" "_law_lacks" (L2.defArgs (top 34)) (L2.defBody (top 34)) sc__law_lacks [] [] f fd) (hm : mg "_law_lacks" = some (.ref f)) (D__law_plus : DefF P w K mg base CX0 C0 2 "_law_plus" 2 m__law_plus) (D__law_minus : DefF P w K mg base CX0 C0 2 "_law_minus" 2 m__law_minus) (D__law_is_over : DefF P w K mg base CX0 C0 2 "_law_is_over" 3 m__law_is_over) (D__law_below : DefF P w K mg base CX0 C0 1 "_law_below" 2 m__law_below) : DefF P w K mg base CX0 C0 3 "_law_lacks" 4 m__law_lacks := by
  have G : FnOk P w K mg base CX0 (2 + 1) f fd ["_law_goods_here", "_law_store_here", "_law_wants_here", "_law_day"] (spF ⟨P, w, K⟩ C0 m__law_lacks 4) :=
    fn_g (k := 2) (N := N__law_lacks) (ps := ["_law_goods_here", "_law_store_here", "_law_wants_here", "_law_day"]) (C := C0) (b := b__law_lacks) F fs__law_lacks fun cdv A outer s H E hr => by
      have hnd := fs__law_lacks.nd
      exact (as_cons (as_set (i := 4) hnd rfl (.inl rfl) (ae_newL (aa_nil) (by decide) (nc_nil)))
    (as_cons (as_for (passes_of rfl) rfl (ai_seq (ae_var (i := 2) rfl (.inl rfl))) (ag_tup rfl (ags_cons (i := 5) hnd rfl (.inl rfl) (ags_cons (i := 6) hnd rfl (.inl rfl) (ags_nil))) rfl) (ass_kill [7, 8] (as_cons (as_set (i := 7) hnd rfl (.inl rfl) (ae_tup (aa_cons (ae_int) (aa_cons (ae_int) (aa_nil))) (by decide) (nc_cons (nc_cons (nc_nil)))))
    (as_cons (as_for (passes_of rfl) rfl (ai_seq (ae_var (i := 1) rfl (.inl rfl))) (ag_name (i := 8) hnd rfl (.inl rfl)) (as_one (as_if (at_w (aw_and (at_cmp (o_eq hr.units) (ae_ix (ae_var (i := 8) rfl (.inl rfl)) (ae_int)) (ae_var (i := 5) rfl (.inl rfl)) (nomark _)) (aw_and1 (at_not (at_val (ae_call D__law_is_over hr (by omega) pass_0 rfl (aa_cons (ae_var (i := 0) rfl (.inl rfl)) (aa_cons (ae_var (i := 8) rfl (.inl rfl)) (aa_cons (ae_var (i := 3) rfl (.inl rfl)) (aa_nil)))) (nc_cons (nc_cons (nc_cons (nc_nil)))))))))) (as_one (as_set (i := 7) hnd rfl (.inl rfl) (ae_call D__law_plus hr (by omega) pass_0 rfl (aa_cons (ae_var (i := 7) rfl (.inl rfl)) (aa_cons (ae_ix (ae_var (i := 8) rfl (.inl rfl)) (ae_int)) (aa_nil))) (nc_cons (nc_cons (nc_nil)))))) (as_nil))))
    (ass_kill [8] (as_one (as_if (at_val (ae_call D__law_below hr (by omega) pass_0 rfl (aa_cons (ae_var (i := 7) rfl (.inl rfl)) (aa_cons (ae_var (i := 6) rfl (.inl rfl)) (aa_nil))) (nc_cons (nc_cons (nc_nil))))) (as_one (as_app (i := 4) rfl (.inl rfl) (ae_tup (aa_cons (ae_var (i := 5) rfl (.inl rfl)) (aa_cons (ae_call D__law_minus hr (by omega) pass_0 rfl (aa_cons (ae_var (i := 6) rfl (.inl rfl)) (aa_cons (ae_var (i := 7) rfl (.inl rfl)) (aa_nil))) (nc_cons (nc_cons (nc_nil)))) (aa_nil))) (by decide) (nc_cons (nc_cons (nc_nil)))))) (as_nil))))))))
    (ass_kill [5, 6, 7, 8] (as_one (as_ret (ae_var (i := 4) rfl (.inl rfl)))))))
  exact ⟨⟨f, fd, ["_law_goods_here", "_law_store_here", "_law_wants_here", "_law_day"], G, hm, F.kp, (F.bindsN fun _ _ _ _ _ _ us hl => match us, hl with | [_, _, _, _], _ => rfl)⟩⟩

def N__law_told : List Str := ["_law_goods_here", "_law_store_here", "_law_wants_here", "_law_day", "_law_found", "e"]
abbrev sc__law_told : Scope := L2.defScope (top 35)
theorem fs__law_told : FnScope N__law_told ["_law_goods_here", "_law_store_here", "_law_wants_here", "_law_day"] sc__law_told := ⟨rfl, rfl, rfl, by decide +kernel, rfl, by decide +kernel, by decide +kernel⟩
theorem d__law_told {f : Addr} {fd : FuncData} (F : FunD K "_law_told" "_law_told" (L2.defArgs (top 35)) (L2.defBody (top 35)) sc__law_told [] [] f fd) (hm : mg "_law_told" = some (.ref f)) (R_Lacks : RaC P w K mg base "Lacks" ["good", "grams"]) (G_Lacks : mg "Lacks" = some (.ref (He.ga K "Lacks"))) (x__law_told_0 : exmK K ["Lacks"] ["Lacks"] ["Lacks"] = true) (D_taken : DefF P w K mg base (L2.CX P w) (CG K) 5 "taken" 4 m_X_taken) : DefF P w K mg base (L2.CX P w) (CG K) 6 "_law_told" 4 m_X__law_told := by
  have G : FnOk P w K mg base (L2.CX P w) (5 + 1) f fd ["_law_goods_here", "_law_store_here", "_law_wants_here", "_law_day"] (spF ⟨P, w, K⟩ (CG K) m_X__law_told 4) :=
    fn_g (k := 5) (N := N__law_told) (ps := ["_law_goods_here", "_law_store_here", "_law_wants_here", "_law_day"]) (C := (CG K)) (b := b_X__law_told) F fs__law_told fun cdv A outer s H E hr => by
      have hnd := fs__law_told.nd
      obtain ⟨fI_Lacks, _, _, T_Lacks, _, _⟩ := R_Lacks.ex; exact (as_cons (as_set (i := 4) hnd rfl (.inl rfl) (ae_non))
    (as_cons (as_try rfl rfl hnd (takes_of rfl rfl rfl rfl) rfl (fun W1 pn1 xe1 tk1 po1 => as_one (as_set (i := 4) hnd rfl (.inl rfl) (ae_tup (aa_cons (ae_str) (aa_cons (ae_call D_taken hr (by omega) (fun σ => passAt tk1 σ) rfl (aa_cons (ae_var (i := 0) rfl (.inl rfl)) (aa_cons (ae_var (i := 1) rfl (.inl rfl)) (aa_cons (ae_var (i := 2) rfl (.inl rfl)) (aa_cons (ae_var (i := 3) rfl (.inl rfl)) (aa_nil))))) (nc_cons (nc_cons (nc_cons (nc_cons (nc_nil)))))) (aa_nil))) (by decide) (nc_cons (nc_cons (nc_nil)))))) (.cons (tn := ["Lacks"]) (io := some 5) (h := ⟨["Lacks"], suSet (some 5) 4 (.lst [.f "good", .f "grams"])⟩) (.one rfl G_Lacks (by decide)) (⟨rfl, rfl⟩) (exmK_ok x__law_told_0) (fun a oe cls d pn hz hfl => su_set (i := 5) (j := 4) (by decide) (asx_lst (aels_cons (ael_fld T_Lacks (by decide) rfl (.inl rfl)) (aels_cons (ael_fld T_Lacks (by decide) rfl (.inl rfl)) (aels_nil) (fun _ _ => rfl)) (fun _ _ => rfl))) hnd rfl (.inl rfl) (a := a) (oe := oe) (cls := cls) (d := d) (pn := pn) (hz := hz) (hfl := hfl)) (.nil)))
    (as_one (as_ret (ae_var (i := 4) rfl (.inl rfl))))))
  exact ⟨⟨f, fd, ["_law_goods_here", "_law_store_here", "_law_wants_here", "_law_day"], G, hm, F.kp, (F.bindsN fun _ _ _ _ _ _ us hl => match us, hl with | [_, _, _, _], _ => rfl)⟩⟩

def N_law : List Str := ["_law_script", "_law_cell", "_law_deck_here", "_law_k", "_law_goods_here", "_law_store_here", "_law_wants_here", "_law_day", "_law_handed", "_law_due", "_law_more", "_law_name", "_law_grams", "_law_lot", "_law_full", "_law_one_here"]
abbrev sc_law : Scope := L2.defScope (top 36)
theorem fs_law : FnScope N_law ["_law_script"] sc_law := ⟨rfl, rfl, rfl, by decide +kernel, rfl, by decide +kernel, by decide +kernel⟩
theorem d_law {f : Addr} {fd : FuncData} (F : FunD K "law" "law" (L2.defArgs (top 36)) (L2.defBody (top 36)) sc_law [] [] f fd) (hm : mg "law" = some (.ref f)) (h_isinstance : mg "isinstance" = none) (h_list : mg "list" = none) (h_range : mg "range" = none) (h_sorted : mg "sorted" = none) (h_tuple : mg "tuple" = none) (D_to_buy : DefF P w K mg base CX0 C0 5 "to_buy" 4 m_to_buy) (D_taken : DefF P w K mg base (L2.CX P w) (CG K) 5 "taken" 4 m_X_taken) (D__law_deck : DefF P w K mg base CX0 C0 1 "_law_deck" 2 m__law_deck) (D__law_pick : DefF P w K mg base CX0 C0 1 "_law_pick" 2 m__law_pick) (D__law_same : DefF P w K mg base CX0 C0 9 "_law_same" 2 (m__law_same 8)) (D__law_plus : DefF P w K mg base CX0 C0 2 "_law_plus" 2 m__law_plus) (D__law_goods : DefF P w K mg base CX0 C0 3 "_law_goods" 1 m__law_goods) (D__law_store : DefF P w K mg base CX0 C0 4 "_law_store" 2 m__law_store) (D__law_taken : DefF P w K mg base CX0 C0 3 "_law_taken" 4 m__law_taken) (D__law_wants : DefF P w K mg base CX0 C0 4 "_law_wants" 2 m__law_wants) (D__law_lacks : DefF P w K mg base CX0 C0 3 "_law_lacks" 4 m__law_lacks) (D__law_told : DefF P w K mg base (L2.CX P w) (CG K) 6 "_law_told" 4 m_X__law_told) : FnOk P w K mg base CX0 (9 + 1) f fd ["_law_script"] (spF ⟨P, w, K⟩ C0 m_law 1) :=
    fn_g (k := 9) (N := N_law) (ps := ["_law_script"]) (C := C0) (b := b_law) F fs_law fun cdv A outer s H E hr => by
      have hnd := fs_law.nd
      exact (as_cons (as_for (passes_of rfl) rfl (ai_seq (ae_sl (ae_bin o_add (ae_lst (aa_cons (ae_int) (aa_nil)) (by decide) (nc_cons (nc_nil))) (ae_var (i := 0) rfl (.inl rfl))) (ao_none) (ao_some (ae_int)))) (ag_name (i := 1) hnd rfl (.inl rfl)) (ass_kill [2, 3, 4, 5, 6, 7, 8, 9, 10, 11, 12, 13, 14] (ass_gc (as_cons (as_set (i := 2) hnd rfl (.inl rfl) (ae_callF D__law_deck hr (by omega) pass_0 rfl (aa_cons (ae_var (i := 1) rfl (.inl rfl)) (aa_cons (ae_int) (aa_nil))) (nc_cons (nc_cons (nc_nil)))))
    (as_one (as_for (passes_of rfl) rfl (ai_range1 rfl h_range (ae_int)) (ag_name (i := 3) hnd rfl (.inl rfl)) (ass_kill [3, 4, 5, 6, 7, 8, 9, 10, 11, 12, 13, 14] (ass_gc (as_cons (as_set (i := 4) hnd rfl (.inl rfl) (ae_call D__law_goods hr (by omega) pass_0 rfl (aa_cons (ae_var (i := 2) rfl (.inl rfl)) (aa_nil)) (nc_cons (nc_nil))))
    (as_cons (as_par3 (i := 5) (j := 6) (l := 7) rfl hnd rfl rfl rfl (by decide) (by decide) (by decide) rfl rfl rfl (aa_cons (ae_call D__law_store hr (by omega) pass_0 rfl (aa_cons (ae_var (i := 2) rfl (.inl rfl)) (aa_cons (ae_var (i := 4) rfl (.inl rfl)) (aa_nil))) (nc_cons (nc_cons (nc_nil)))) (aa_cons (ae_call D__law_wants hr (by omega) pass_0 rfl (aa_cons (ae_var (i := 2) rfl (.inl rfl)) (aa_cons (ae_var (i := 4) rfl (.inl rfl)) (aa_nil))) (nc_cons (nc_cons (nc_nil)))) (aa_cons (ae_call D__law_pick hr (by omega) pass_0 rfl (aa_cons (ae_var (i := 2) rfl (.inl rfl)) (aa_cons (ae_int) (aa_nil))) (nc_cons (nc_cons (nc_nil)))) (aa_nil)))) (by rfl))
    (as_cons (as_set (i := 8) hnd rfl (.inl rfl) (ae_callT c_list rfl h_list boot_list' (aa_cons (ae_var (i := 6) rfl (.inl rfl)) (aa_nil))))
    (as_cons (as_if (at_not (at_val (ae_call D__law_same hr (by omega) pass_0 rfl (aa_cons (ae_call (DefF.down D__law_told) hr (by omega) pass_0 rfl (aa_cons (ae_var (i := 4) rfl (.inl rfl)) (aa_cons (ae_var (i := 5) rfl (.inl rfl)) (aa_cons (ae_var (i := 8) rfl (.inl rfl)) (aa_cons (ae_var (i := 7) rfl (.inl rfl)) (aa_nil))))) (nc_cons (nc_cons (nc_cons (nc_cons (nc_nil)))))) (aa_cons (ae_call D__law_taken hr (by omega) pass_0 rfl (aa_cons (ae_var (i := 4) rfl (.inl rfl)) (aa_cons (ae_var (i := 5) rfl (.inl rfl)) (aa_cons (ae_var (i := 6) rfl (.inl rfl)) (aa_cons (ae_var (i := 7) rfl (.inl rfl)) (aa_nil))))) (nc_cons (nc_cons (nc_cons (nc_cons (nc_nil)))))) (aa_nil))) (nc_cons (nc_cons (nc_nil)))))) (as_one (as_ret (ae_bl))) (as_nil))
    (as_cons (as_set (i := 9) hnd rfl (.inl rfl) (ae_call D__law_lacks hr (by omega) pass_0 rfl (aa_cons (ae_var (i := 4) rfl (.inl rfl)) (aa_cons (ae_var (i := 5) rfl (.inl rfl)) (aa_cons (ae_var (i := 6) rfl (.inl rfl)) (aa_cons (ae_var (i := 7) rfl (.inl rfl)) (aa_nil))))) (nc_cons (nc_cons (nc_cons (nc_cons (nc_nil)))))))
    (as_cons (as_if (at_w (aw_or (at_not (at_val (ae_call D__law_same hr (by omega) pass_0 rfl (aa_cons (ae_call D_to_buy hr (by omega) pass_0 rfl (aa_cons (ae_var (i := 4) rfl (.inl rfl)) (aa_cons (ae_var (i := 5) rfl (.inl rfl)) (aa_cons (ae_var (i := 8) rfl (.inl rfl)) (aa_cons (ae_var (i := 7) rfl (.inl rfl)) (aa_nil))))) (nc_cons (nc_cons (nc_cons (nc_cons (nc_nil)))))) (aa_cons (ae_var (i := 9) rfl (.inl rfl)) (aa_nil))) (nc_cons (nc_cons (nc_nil)))))) (aw_or1 (at_cmp (o_ne hr.units) (ae_var (i := 8) rfl (.inl rfl)) (ae_var (i := 6) rfl (.inl rfl)) (nomark _))))) (as_one (as_ret (ae_bl))) (as_nil))
    (as_cons (as_set (i := 10) hnd rfl (.inr rfl) (ae_newD true))
    (as_cons (as_for (passes_of rfl) rfl (ai_seq (ae_var (i := 9) rfl (.inl rfl))) (ag_tup rfl (ags_cons (i := 11) hnd rfl (.inl rfl) (ags_cons (i := 12) hnd rfl (.inl rfl) (ags_nil))) rfl) (as_one (as_dset (i := 10) hr.units rfl (.inr (.inl rfl)) (ae_tup (aa_cons (ae_var (i := 11) rfl (.inl rfl)) (aa_cons (ae_var (i := 7) rfl (.inl rfl)) (aa_nil))) (by decide) (nc_cons (nc_cons (nc_nil)))) (ae_var (i := 12) rfl (.inl rfl)))))
    (ass_kill [11, 12] (as_cons (as_for (passes_of rfl) rfl (ai_seq (ae_var (i := 5) rfl (.inl rfl))) (ag_name (i := 13) hnd rfl (.inl rfl)) (as_one (as_dset (i := 10) hr.units rfl (.inr (.inl rfl)) (ae_sl (ae_var (i := 13) rfl (.inl rfl)) (ao_none) (ao_some (ae_int))) (ae_call D__law_plus hr (by omega) pass_0 rfl (aa_cons (ae_dgetD hr.units (ae_var (i := 10) rfl (.inr (.inl rfl))) (ae_sl (ae_var (i := 13) rfl (.inl rfl)) (ao_none) (ao_some (ae_int))) (ae_tup (aa_cons (ae_int) (aa_cons (ae_int) (aa_nil))) (by decide) (nc_cons (nc_cons (nc_nil)))) ⟨rfl, rfl, rfl, rfl⟩) (aa_cons (ae_ix (ae_var (i := 13) rfl (.inl rfl)) (ae_int)) (aa_nil))) (nc_cons (nc_cons (nc_nil)))))))
    (ass_kill [13] (as_cons (as_set (i := 14) hnd rfl (.inl rfl) (ae_callT c_tuple rfl h_tuple boot_tuple' (aa_cons (ae_lc rfl hnd (own := [("_law_one_here", 15)]) (ai_seq (ae_callBD (c_sortedK rfl hr.units) rfl h_sorted boot_sorted' (ae_var (i := 10) rfl (.inr (.inl rfl))))) (blkOk_by (N := N_law) (sc := sc_law) (by decide +kernel)) (fun _ _ _ _ _ => ag_name (i := 15) hnd rfl (.inl rfl)) (fun _ _ _ _ _ => ats_nil) (fun _ _ _ _ _ => ae_bin o_add (ae_var (i := 15) rfl (.inl rfl)) (ae_tup (aa_cons (ae_dget hr.units (ae_var (i := 10) rfl (.inr (.inl rfl))) (ae_var (i := 15) rfl (.inl rfl))) (aa_nil)) (by decide) (nc_cons (nc_nil)))) (by decide)) (aa_nil))))
    (as_one (as_if (at_w (aw_or (at_cmp (o_ne hr.units) (ae_call D_to_buy hr (by omega) pass_0 rfl (aa_cons (ae_var (i := 4) rfl (.inl rfl)) (aa_cons (ae_var (i := 14) rfl (.inl rfl)) (aa_cons (ae_var (i := 6) rfl (.inl rfl)) (aa_cons (ae_var (i := 7) rfl (.inl rfl)) (aa_nil))))) (nc_cons (nc_cons (nc_cons (nc_cons (nc_nil)))))) (ae_lst (aa_nil) (by decide) (nc_nil)) (nomark _)) (aw_or1 (at_val (ae_is1 tyOk_list rfl h_isinstance rfl h_list boot_list' (ae_call (DefF.down D__law_told) hr (by omega) pass_0 rfl (aa_cons (ae_var (i := 4) rfl (.inl rfl)) (aa_cons (ae_var (i := 14) rfl (.inl rfl)) (aa_cons (ae_var (i := 6) rfl (.inl rfl)) (aa_cons (ae_var (i := 7) rfl (.inl rfl)) (aa_nil))))) (nc_cons (nc_cons (nc_cons (nc_cons (nc_nil))))))))))) (as_one (as_ret (ae_bl))) (as_nil)))))))))))))))))))))))
    (ass_kill [1, 2, 3, 4, 5, 6, 7, 8, 9, 10, 11, 12, 13, 14] (as_one (as_ret (ae_cmp (o_eq hr.units) (ae_call (DefF.down D_taken) hr (by omega) pass_0 rfl (aa_cons (ae_tup (aa_cons (ae_tup (aa_cons (ae_str) (aa_cons (ae_int) (aa_cons (ae_int) (aa_cons (ae_int) (aa_cons (ae_tup (aa_nil) (by decide) (nc_nil)) (aa_nil)))))) (by decide) (nc_cons (nc_cons (nc_cons (nc_cons (nc_cons (nc_nil))))))) (aa_nil)) (by decide) (nc_cons (nc_nil))) (aa_cons (ae_tup (aa_nil) (by decide) (nc_nil)) (aa_cons (ae_lst (aa_nil) (by decide) (nc_nil)) (aa_cons (ae_int) (aa_nil))))) (nc_cons (nc_cons (nc_cons (nc_cons (nc_nil)))))) (ae_tup (aa_cons (ae_lst (aa_nil) (by decide) (nc_nil)) (aa_cons (ae_tup (aa_nil) (by decide) (nc_nil)) (aa_nil))) (by decide) (nc_cons (nc_cons (nc_nil)))) (nomark _))))))

end
def dOf (n : Str) (i : Nat) (kw : List (Str × He.Dv)) : He.DefD := ⟨(n, none), n, n, L2.defArgs (top i), L2.defBody (top i), L2.defScope (top i), [], kw⟩
def kwAt (f : Str × Option Str) (x : Str) (K : PySem.W.Frag) : Addr := match K.lookup (He.fAd K f) with
  | some ⟨_, _, .func fd, _⟩ => (match fd.kwdefaults with
    | .ref D => (match PySem.W.nsIn K D x with
      | some (some (.ref b)) => b
      | _ => 0)
    | _ => 0)
  | _ => 0
def tupAt (K : PySem.W.Frag) (a : Addr) (vs : List He.Dv) : Bool := match K.lookup a with
  | some ⟨.type c, _, .seq its _, _⟩ => decide (c = "tuple") && (decide (its.size ≤ sizeLine) && He.relAll (vs.map (He.Dv.v K)) its.toList)
  | _ => false
theorem tupAt_ok {K : PySem.W.Frag} {a : Addr} {vs : List He.Dv} (h : tupAt K a vs = true) (H : Hp) : SqT K H a (vs.map (He.Dv.v K)) := by
  unfold tupAt at h
  split at h
  · rename_i c d its n sl q
    rw [Bool.and_eq_true, Bool.and_eq_true] at h
    exact .inr ⟨_, its, n, q, by rw [of_decide_eq_true h.1], rfl, of_decide_eq_true h.2.1, He.relAll_ok h.2.2⟩
  · cases h
def mst (i j : Nat) : Stmt := match top i with
  | .ClassDef (body := b) .. => b.getD j (.Pass ⟨0, 0, 0, 0⟩)
  | _ => .Pass ⟨0, 0, 0, 0⟩
def mOf (c m q : Str) (i j : Nat) : He.DefD := ⟨(c, some m), m, q, L2.defArgs (mst i j), L2.defBody (mst i j), L2.defScope (mst i j), [], []⟩
def hdFn : List He.DefD := @List.append He.DefD [dOf "divisor" 5 [], dOf "fraction" 6 [], dOf "plus" 7 [], dOf "minus" 8 [], dOf "is_less" 9 [], dOf "good_of" 10 [], dOf "is_over" 12 [], dOf "lacking" 13 [], dOf "to_buy" 14 [], dOf "taken" 15 [], dOf "_law_deck" 17 [], dOf "_law_pick" 18 [], dOf "_law_one" 19 [], dOf "_law_sort" 20 []] (@List.append He.DefD [dOf "_law_same" 21 [], dOf "_law_frac" 22 [], dOf "_law_plus" 23 [], dOf "_law_minus" 24 [], dOf "_law_amount" 25 [], dOf "_law_marks" 26 [], dOf "_law_goods" 27 [], dOf "_law_store" 28 [], dOf "_law_days" 29 [], dOf "_law_is_over" 30 [], dOf "_law_below" 31 [], dOf "_law_taken" 32 [], dOf "_law_wants" 33 [], dOf "_law_lacks" 34 []] ([dOf "_law_told" 35 [], dOf "law" 36 [], mOf "Lacks" "__init__" "Lacks.__init__" 2 0]))
def hdFa : List He.Fa := @List.append He.Fa [.glo "divisor", .glo "fraction", .glo "plus", .glo "minus", .glo "is_less", .glo "good_of", .glo "is_over", .glo "lacking", .glo "to_buy", .glo "taken", .glo "_law_deck", .glo "_law_pick", .glo "_law_one", .glo "_law_sort"] (@List.append He.Fa [.glo "_law_same", .glo "_law_frac", .glo "_law_plus", .glo "_law_minus", .glo "_law_amount", .glo "_law_marks", .glo "_law_goods", .glo "_law_store", .glo "_law_days", .glo "_law_is_over", .glo "_law_below", .glo "_law_taken", .glo "_law_wants", .glo "_law_lacks"] (@List.append He.Fa [.glo "_law_told", .glo "law", .glo "GalleyError", .glo "Lacks", .free "ValueError", .free "abs", .free "bool", .free "dict", .free "enumerate", .free "int", .free "isinstance", .free "len", .free "list", .free "range"] ([.free "sorted", .free "tuple", .glo "NOUGHT"])))
def hdLoose : List PySem.Str := @List.append PySem.Str ["divisor", "fraction", "plus", "minus", "is_less", "good_of", "is_over", "lacking", "to_buy", "taken", "_law_deck", "_law_pick", "_law_one", "_law_sort"] (@List.append PySem.Str ["_law_same", "_law_frac", "_law_plus", "_law_minus", "_law_amount", "_law_marks", "_law_goods", "_law_store", "_law_days", "_law_is_over", "_law_below", "_law_taken", "_law_wants", "_law_lacks"] (["_law_told", "GalleyError", "Lacks", "NOUGHT"]))
abbrev hdR : PySem.W.OpenRow := PySem.W.OpenLaw.row PySem.Challenge.rw_galleyward_k52_what_is_taken
def hdTb : List (Str × List He.Dv) := [("NOUGHT", [.int 0, .int 1])]
abbrev AlT : Type := He.AlD × Bool
def hdKw : List (Str × Str × List He.Dv) := []
def hdEx : List (Str × List Str) := [("Lacks", ["good", "grams"])]
def hdXm : List (List Str × List Str × List Str) := [(["Lacks"], ["Lacks"], ["Lacks"])]
def tbB (K : PySem.W.Frag) : Bool := (hdTb.all fun q => He.tupB K q.1 q.2) && (hdKw.all fun q => tupAt K (kwAt (q.1, none) q.2.1 K) q.2.2) && ((hdEx.all fun q => exfK K q.1 q.2) && (hdXm.all fun q => exmK K q.1 q.2.1 q.2.2))
def obsT (K : PySem.W.Frag) : AlT := (He.obsD hdFa hdFn K, tbB K)
def hdOf (g : Addr → Option Obj) : AlT := obsT (He.frG g (He.asD g 6))
def hdK : PySem.W.Hook where
  α := AlT
  obs := fun s => hdOf s.heap.get?
  val := fun _ => (He.valD hdFn, true)
  says := fun _ h => ∃ K : PySem.W.Frag, K.In h ∧ He.SaysD hdFa hdFn K ∧ tbB K = true
  of := fun _ _ e => ⟨_, He.frG_in, congrArg Prod.fst e, congrArg Prod.snd e⟩
  keeps := fun _ _ _ ⟨K, hK, c⟩ k => ⟨K, PySem.W.Frag.In.keeps hK k, c⟩
def hdOb (s : PySem.W.SharedT) : AlT := hdOf (HandSHeadRun.getT s)
theorem hdOb_eq (s : PySem.W.SharedT) : hdOb s = hdK.obs s.abs := by
  have e : HandSHeadRun.getT s = s.abs.heap.get? := funext (HandSHeadRun.getT_eq s)
  show hdOf (HandSHeadRun.getT s) = hdOf s.abs.heap.get?
  rw [e]
theorem hdRun (w : World) : HandSHeadRun.RunEq hdR (PySem.W.view hdR.prog [36]) hdK hdOb 1600 hdLoose w := by
  intro os
  kernel_rfl
theorem hdFacts {P : Program} {w : World} {K : PySem.W.Frag} {h : Heap} {mg : Str → Option Value} {f : Addr} (X : K.In h) (G : h.Ns mainGlobals mg) (hfa : mg ("law" : Str) = some (.ref f)) (c : He.SaysD hdFa hdFn K) (ct0 : tbB K = true) :
    ∃ fd : FuncData, (∀ (s : Shared) (v : Value), BindsTo s fd ⟨[v], []⟩ [("_law_script", v)]) ∧ ∀ base : Heap, K.In base → base.Ns mainGlobals mg → FnOk P w K mg base CX0 10 f fd ["_law_script"] (spF ⟨P, w, K⟩ C0 m_law 1) := by
  obtain ⟨fd, F⟩ := c.def_ 29 (d := dOf "law" 36 []) rfl
  have ct := (Bool.and_eq_true_iff.mp (Bool.and_eq_true_iff.mp ct0).1).1
  have ck := (Bool.and_eq_true_iff.mp (Bool.and_eq_true_iff.mp ct0).1).2
  have ce := (Bool.and_eq_true_iff.mp (Bool.and_eq_true_iff.mp ct0).2).1
  have cx := (Bool.and_eq_true_iff.mp (Bool.and_eq_true_iff.mp ct0).2).2
  have e := hfa.symm.trans (He.glo_ok X G (c.fact 29 (f := .glo "law") rfl))
  cases e
  have b := FunD.bindsA (ps := ["_law_script"]) F fun _ _ _ _ _ _ us hl => match us, hl with | [_], _ => rfl
  refine ⟨fd, fun s v => b s [v] rfl, fun base _ _ => ?_⟩
  obtain ⟨fd_divisor, F_divisor⟩ := c.def_ 0 (d := dOf "divisor" 5 []) rfl
  have g_divisor := He.glo_ok X G (c.fact 0 (f := .glo "divisor") rfl)
  obtain ⟨fd_fraction, F_fraction⟩ := c.def_ 1 (d := dOf "fraction" 6 []) rfl
  have g_fraction := He.glo_ok X G (c.fact 1 (f := .glo "fraction") rfl)
  obtain ⟨fd_plus, F_plus⟩ := c.def_ 2 (d := dOf "plus" 7 []) rfl
  have g_plus := He.glo_ok X G (c.fact 2 (f := .glo "plus") rfl)
  obtain ⟨fd_minus, F_minus⟩ := c.def_ 3 (d := dOf "minus" 8 []) rfl
  have g_minus := He.glo_ok X G (c.fact 3 (f := .glo "minus") rfl)
  obtain ⟨fd_is_less, F_is_less⟩ := c.def_ 4 (d := dOf "is_less" 9 []) rfl
  have g_is_less := He.glo_ok X G (c.fact 4 (f := .glo "is_less") rfl)
  obtain ⟨fd_good_of, F_good_of⟩ := c.def_ 5 (d := dOf "good_of" 10 []) rfl
  have g_good_of := He.glo_ok X G (c.fact 5 (f := .glo "good_of") rfl)
  obtain ⟨fd_is_over, F_is_over⟩ := c.def_ 6 (d := dOf "is_over" 12 []) rfl
  have g_is_over := He.glo_ok X G (c.fact 6 (f := .glo "is_over") rfl)
  obtain ⟨fd_lacking, F_lacking⟩ := c.def_ 7 (d := dOf "lacking" 13 []) rfl
  have g_lacking := He.glo_ok X G (c.fact 7 (f := .glo "lacking") rfl)
  obtain ⟨fd_to_buy, F_to_buy⟩ := c.def_ 8 (d := dOf "to_buy" 14 []) rfl
  have g_to_buy := He.glo_ok X G (c.fact 8 (f := .glo "to_buy") rfl)
  obtain ⟨fd_taken, F_taken⟩ := c.def_ 9 (d := dOf "taken" 15 []) rfl
  have g_taken := He.glo_ok X G (c.fact 9 (f := .glo "taken") rfl)
  obtain ⟨fd__law_deck, F__law_deck⟩ := c.def_ 10 (d := dOf "_law_deck" 17 []) rfl
  have g__law_deck := He.glo_ok X G (c.fact 10 (f := .glo "_law_deck") rfl)
  obtain ⟨fd__law_pick, F__law_pick⟩ := c.def_ 11 (d := dOf "_law_pick" 18 []) rfl
  have g__law_pick := He.glo_ok X G (c.fact 11 (f := .glo "_law_pick") rfl)
  obtain ⟨fd__law_one, F__law_one⟩ := c.def_ 12 (d := dOf "_law_one" 19 []) rfl
  have g__law_one := He.glo_ok X G (c.fact 12 (f := .glo "_law_one") rfl)
  obtain ⟨fd__law_sort, F__law_sort⟩ := c.def_ 13 (d := dOf "_law_sort" 20 []) rfl
  have g__law_sort := He.glo_ok X G (c.fact 13 (f := .glo "_law_sort") rfl)
  obtain ⟨fd__law_same, F__law_same⟩ := c.def_ 14 (d := dOf "_law_same" 21 []) rfl
  have g__law_same := He.glo_ok X G (c.fact 14 (f := .glo "_law_same") rfl)
  obtain ⟨fd__law_frac, F__law_frac⟩ := c.def_ 15 (d := dOf "_law_frac" 22 []) rfl
  have g__law_frac := He.glo_ok X G (c.fact 15 (f := .glo "_law_frac") rfl)
  obtain ⟨fd__law_plus, F__law_plus⟩ := c.def_ 16 (d := dOf "_law_plus" 23 []) rfl
  have g__law_plus := He.glo_ok X G (c.fact 16 (f := .glo "_law_plus") rfl)
  obtain ⟨fd__law_minus, F__law_minus⟩ := c.def_ 17 (d := dOf "_law_minus" 24 []) rfl
  have g__law_minus := He.glo_ok X G (c.fact 17 (f := .glo "_law_minus") rfl)
  obtain ⟨fd__law_amount, F__law_amount⟩ := c.def_ 18 (d := dOf "_law_amount" 25 []) rfl
  have g__law_amount := He.glo_ok X G (c.fact 18 (f := .glo "_law_amount") rfl)
  obtain ⟨fd__law_marks, F__law_marks⟩ := c.def_ 19 (d := dOf "_law_marks" 26 []) rfl
  have g__law_marks := He.glo_ok X G (c.fact 19 (f := .glo "_law_marks") rfl)
  obtain ⟨fd__law_goods, F__law_goods⟩ := c.def_ 20 (d := dOf "_law_goods" 27 []) rfl
  have g__law_goods := He.glo_ok X G (c.fact 20 (f := .glo "_law_goods") rfl)
  obtain ⟨fd__law_store, F__law_store⟩ := c.def_ 21 (d := dOf "_law_store" 28 []) rfl
  have g__law_store := He.glo_ok X G (c.fact 21 (f := .glo "_law_store") rfl)
  obtain ⟨fd__law_days, F__law_days⟩ := c.def_ 22 (d := dOf "_law_days" 29 []) rfl
  have g__law_days := He.glo_ok X G (c.fact 22 (f := .glo "_law_days") rfl)
  obtain ⟨fd__law_is_over, F__law_is_over⟩ := c.def_ 23 (d := dOf "_law_is_over" 30 []) rfl
  have g__law_is_over := He.glo_ok X G (c.fact 23 (f := .glo "_law_is_over") rfl)
  obtain ⟨fd__law_below, F__law_below⟩ := c.def_ 24 (d := dOf "_law_below" 31 []) rfl
  have g__law_below := He.glo_ok X G (c.fact 24 (f := .glo "_law_below") rfl)
  obtain ⟨fd__law_taken, F__law_taken⟩ := c.def_ 25 (d := dOf "_law_taken" 32 []) rfl
  have g__law_taken := He.glo_ok X G (c.fact 25 (f := .glo "_law_taken") rfl)
  obtain ⟨fd__law_wants, F__law_wants⟩ := c.def_ 26 (d := dOf "_law_wants" 33 []) rfl
  have g__law_wants := He.glo_ok X G (c.fact 26 (f := .glo "_law_wants") rfl)
  obtain ⟨fd__law_lacks, F__law_lacks⟩ := c.def_ 27 (d := dOf "_law_lacks" 34 []) rfl
  have g__law_lacks := He.glo_ok X G (c.fact 27 (f := .glo "_law_lacks") rfl)
  obtain ⟨fd__law_told, F__law_told⟩ := c.def_ 28 (d := dOf "_law_told" 35 []) rfl
  have g__law_told := He.glo_ok X G (c.fact 28 (f := .glo "_law_told") rfl)
  have h_abs := He.free_ok X G (c.fact 33 (f := .free "abs") rfl)
  have h_bool := He.free_ok X G (c.fact 34 (f := .free "bool") rfl)
  have h_dict := He.free_ok X G (c.fact 35 (f := .free "dict") rfl)
  have h_enumerate := He.free_ok X G (c.fact 36 (f := .free "enumerate") rfl)
  have h_int := He.free_ok X G (c.fact 37 (f := .free "int") rfl)
  have h_isinstance := He.free_ok X G (c.fact 38 (f := .free "isinstance") rfl)
  have h_len := He.free_ok X G (c.fact 39 (f := .free "len") rfl)
  have h_list := He.free_ok X G (c.fact 40 (f := .free "list") rfl)
  have h_range := He.free_ok X G (c.fact 41 (f := .free "range") rfl)
  have h_sorted := He.free_ok X G (c.fact 42 (f := .free "sorted") rfl)
  have h_tuple := He.free_ok X G (c.fact 43 (f := .free "tuple") rfl)
  have c_NOUGHT := And.intro (He.glo_ok X G (c.fact 44 (f := .glo "NOUGHT") rfl)) (fun H => He.tupB_ok (List.all_eq_true.mp ct (hdTb[0]'(by decide)) (List.getElem_mem _)) H)
  have G_Lacks := He.glo_ok X G (c.fact 31 (f := .glo "Lacks") rfl)
  obtain ⟨fI_Lacks, FI_Lacks⟩ := c.def_ 30 (d := mOf "Lacks" "__init__" "Lacks.__init__" 2 0) rfl
  have T_Lacks : ExF K "Lacks" (He.ma K (He.ga K "Lacks") "__init__") ["good", "grams"] := exfK_ok (List.all_eq_true.mp ce (hdEx[0]'(by decide)) (List.getElem_mem _))
  have I_Lacks := init2 (f1 := "good") (f2 := "grams") (P := P) (w := w) (mg := mg) (base := base) FI_Lacks T_Lacks ⟨rfl, rfl, rfl, by decide +kernel, rfl, by decide +kernel, by decide +kernel⟩ (.inl rfl) (.inl rfl) (by decide) (by decide) (fun _ _ => rfl) (.inl rfl) (by decide) (by decide) (fun _ _ => rfl)
  have R_Lacks : RaC P w K mg base "Lacks" ["good", "grams"] := ⟨⟨_, _, _, T_Lacks, I_Lacks, FI_Lacks.bindsN fun _ _ _ _ _ _ us hl => match us, hl with | [_, _, _], _ => rfl⟩, He.glo_ok X G (c.fact 31 (f := .glo "Lacks") rfl)⟩
  have D_divisor := d_divisor (P := P) (w := w) (base := base) F_divisor g_divisor h_abs  
  have D_fraction := d_fraction (P := P) (w := w) (base := base) F_fraction g_fraction   D_divisor
  have D_plus := d_plus (P := P) (w := w) (base := base) F_plus g_plus   D_fraction
  have D_minus := d_minus (P := P) (w := w) (base := base) F_minus g_minus   D_fraction
  have D_is_less := d_is_less (P := P) (w := w) (base := base) F_is_less g_is_less   
  have D_good_of := d_good_of (P := P) (w := w) (base := base) F_good_of g_good_of   
  have D_is_over := d_is_over (P := P) (w := w) (base := base) F_is_over g_is_over   D_good_of
  have D_lacking := d_lacking (P := P) (w := w) (base := base) F_lacking g_lacking c_NOUGHT  D_plus D_minus D_is_less D_is_over
  have D_to_buy := d_to_buy (P := P) (w := w) (base := base) F_to_buy g_to_buy   D_lacking
  have D_taken := d_taken (P := P) (w := w) (base := base) F_taken g_taken h_dict h_tuple c_NOUGHT R_Lacks D_minus D_is_less D_is_over D_lacking
  have D__law_deck := d__law_deck (P := P) (w := w) (base := base) F__law_deck g__law_deck   
  have D__law_pick := d__law_pick (P := P) (w := w) (base := base) F__law_pick g__law_pick   
  have D__law_one := d__law_one (P := P) (w := w) (base := base) F__law_one g__law_one h_len  D__law_pick
  have D__law_sort := d__law_sort (P := P) (w := w) (base := base) F__law_sort g__law_sort h_bool h_int h_isinstance h_list h_tuple  
  have D__law_same := d__law_same (P := P) (w := w) (base := base) F__law_same g__law_same h_enumerate h_isinstance h_len h_list h_tuple  D__law_sort 8
  have D__law_frac := d__law_frac (P := P) (w := w) (base := base) F__law_frac g__law_frac h_abs  
  have D__law_plus := d__law_plus (P := P) (w := w) (base := base) F__law_plus g__law_plus   D__law_frac
  have D__law_minus := d__law_minus (P := P) (w := w) (base := base) F__law_minus g__law_minus   D__law_frac
  have D__law_amount := d__law_amount (P := P) (w := w) (base := base) F__law_amount g__law_amount   D__law_pick D__law_one D__law_frac
  have D__law_marks := d__law_marks (P := P) (w := w) (base := base) F__law_marks g__law_marks h_tuple  D__law_pick
  have D__law_goods := d__law_goods (P := P) (w := w) (base := base) F__law_goods g__law_goods h_tuple  D__law_pick D__law_one D__law_marks
  have D__law_store := d__law_store (P := P) (w := w) (base := base) F__law_store g__law_store h_range h_sorted h_tuple  D__law_pick D__law_one D__law_amount
  have D__law_days := d__law_days (P := P) (w := w) (base := base) F__law_days g__law_days   
  have D__law_is_over := d__law_is_over (P := P) (w := w) (base := base) F__law_is_over g__law_is_over   D__law_days
  have D__law_below := d__law_below (P := P) (w := w) (base := base) F__law_below g__law_below   
  have D__law_taken := d__law_taken (P := P) (w := w) (base := base) F__law_taken g__law_taken h_list h_sorted h_tuple  D__law_minus D__law_is_over D__law_below
  have D__law_wants := d__law_wants (P := P) (w := w) (base := base) F__law_wants g__law_wants h_range h_sorted  D__law_pick D__law_one D__law_amount
  have D__law_lacks := d__law_lacks (P := P) (w := w) (base := base) F__law_lacks g__law_lacks   D__law_plus D__law_minus D__law_is_over D__law_below
  have D__law_told := d__law_told (P := P) (w := w) (base := base) F__law_told g__law_told  R_Lacks G_Lacks (List.all_eq_true.mp cx (hdXm[0]'(by decide)) (List.getElem_mem _)) D_taken
  exact d_law F hfa h_isinstance h_list h_range h_sorted h_tuple D_to_buy D_taken D__law_deck D__law_pick D__law_same D__law_plus D__law_goods D__law_store D__law_taken D__law_wants D__law_lacks D__law_told
theorem law_end {p : Par} {C : CExc} {m : AFun} {H : Hp} {a : Addr} {ns : List Int} (hO : Only H) (hS : SqL p.K H a (ns.map V.int)) (hl : ns.length ≤ 63) (hm : m [.scr ns] [] = .ok (.dat (.bool true)) []) : spF p C m 1 [.ref a] H (fun v _ => v = .bl true) (fun _ _ _ => False) := by
  refine ⟨rfl, fun _ => False, [], [.scr ns], [], .cons ⟨by rw [sizeLine_eq]; omega, a, rfl, ?_⟩ .nil, .nil, rfl, fun i b e => by simp at e, ?_⟩
  · rcases hS with (h | ⟨o, h⟩) | h
    · rcases hO a with z | ⟨o, xs, z⟩
      · rw [z] at h; cases h
      · rw [z] at h; cases h
    · exact .inl ⟨o, h⟩
    · exact .inr (.inr h)
  · rw [hm]
    exact fun v H' _ r => RepB.bool (.inl r)
end G
open PySem PySem.W PySem.Calls PyProof.Rows in
theorem PySem.Challenge.cw_galleyward_k52_what_is_taken_holds : PySem.Challenge.rw_galleyward_k52_what_is_taken.Holds := by
  w_on; o_law
  refine HandSHeadRun.head_any (r := OpenLaw.row PySem.Challenge.rw_galleyward_k52_what_is_taken) (q := view (OpenLaw.row PySem.Challenge.rw_galleyward_k52_what_is_taken).prog [36]) (H := G.hdK) (ob := G.hdOb) (M := 1600) (loose := G.hdLoose) (d := HandSHeadRun.topDef (OpenLaw.row PySem.Challenge.rw_galleyward_k52_what_is_taken).prog 36) (kwd := []) G.hdOb_eq
    (by kernel_rfl) (fun s => by kernel_rfl) G.hdRun (by kernel_rfl) (by kernel_rfl) (by kernel_rfl) (by rfl) (by first | assumption | decide +kernel) (by decide +kernel) ⟨rfl, rfl, rfl, rfl, rfl, by decide +kernel⟩ ?hw ?hc
  case hw => w_witness2
  case hc =>
    refine L2.walk_ofE (l := PySem.Challenge.rw_galleyward_k52_what_is_taken) (n := 63) (k := 10) (x := "_law_script") (CX := L2.CX0) rfl (by decide) (by kernel_rfl) ⟨rfl, by decide, by decide⟩ ?F (fun _ _ _ _ z => z)
    intro w mg fa h Y G0 hmg0
    obtain ⟨K, KX, c, ct⟩ := Y
    have hmg : mg ("law" : PySem.Str) = some (.ref fa) := by
      have e : (HandSHeadRun.topDef (OpenLaw.row PySem.Challenge.rw_galleyward_k52_what_is_taken).prog 36).name = ("law" : PySem.Str) := by kernel_rfl
      rw [← e]
      exact hmg0
    obtain ⟨fd, hb, hF⟩ := G.hdFacts (P := (PySem.Challenge.rw_galleyward_k52_what_is_taken).prog) (w := w) KX G0 hmg c ct
    exact ⟨K, fd, G.spF ⟨(PySem.Challenge.rw_galleyward_k52_what_is_taken).prog, w, K⟩ G.C0 G.m_law 1, KX, hb, fun H a ns hl hO hS => G.law_end hO hS hl (G.s_law ns hl), hF⟩
